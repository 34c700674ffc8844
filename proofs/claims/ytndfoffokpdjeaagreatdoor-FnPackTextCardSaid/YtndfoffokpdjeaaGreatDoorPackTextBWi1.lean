/- FnPackText: the walk.. -/
import Derived.Test.YtndfoffokpdjeaaGreatDoorPackTextBT
set_option maxRecDepth 20000
set_option linter.unusedSimpArgs false
set_option linter.unusedVariables false
set_option linter.unnecessarySimpa false
namespace Go.Proofs.YtndfoffokpdjeaaGreatDoor
open Go Go.RowKit
open Enc (rd ow)
open Arg (argv)
open Ret (retv)
open Go.Proofs.Tryz
theorem Qs8 (fu) {w0} (Ac Ab) {r} (h:Qjq fu Ac Ab=some r):cL 38 [.string (Ac),.int .u8 (Ab)] w0 r:=by
 refine eg func38 z ntmps38 z λk m=>uc 7 k z λk=>sB (cs:=[]) (ps:=[]) Qyn m k z (by exact fN) λg3 w4 e6 a k m e Ar=>?_;have Bj:=Qai Ar ([]:List ByteArray) z z z;refine ul 15 k z λk=>lG (λn a w=>∃ Aj Ad Ae Al Ah Aa,K 35 [(0,.string (Ac)),(1,.int .u8 (Ab)),(5,Ad),(6,I Ah),(7,I Aa)] a∧St [] w0 w [(Ae,Al)]∧ow Al Ae [Ad] Aj∧Qha fu Ac Ab n Aj Ah Aa=some r) ?_ fu ?_
 · rintro Au a Br ⟨Aj,Ad,Ae,Al,Ah,Aa,k,m,Ao,h⟩;refine uc 5 k z λk=>sv k z (Q1s k underlying9 z z) λa k=>ul 3 k z λk=>cJ h k z (λh=>?_) λh=>?_
   · refine uc 2 k z λk=>cg (λa w=>∃ Af Ai Ak Ag Am,K 35 [(0,.string (Ac)),(1,.int .u8 (Ab)),(5,Ai),(6,I Am),(7,I Aa)] a∧St [] w0 w [(Ak,Ag)]∧ow Ag Ak [Ai] Af∧Qox fu (Qha fu Ac Ab Au) Aa Af Am=some r) ?_ ?_
     · rintro a Bo ⟨Af,Ai,Ak,Ag,Am,k,m,Bh,h⟩;refine uc 6 k z λk=>?_;exact ⟨_,_,_,_,_,_,k.p z,m.sl [0] z,Bh,h⟩
     refine oE h λBt Bd h=>uc 5 k z λk=>sv k z (Jai Bd k underlying9 z z z) λa k=>ul 4 k z λk=>cJ h k z (λh=>?_) λh=>?_
     · refine oE h λAp Av h=>uc 6 k z λk=>sv k z (Jfd Av k underlying9 z z z z) λa k=>sB (cs:=[.string (Ap)]) (ps:=[(0,.tmp 24)]) Qyn m k z (by exact fC z fN) λBx Bv Bu a k m e Bm=>?_;have Bb:=Qai Bm ([Ap]:List ByteArray) z z z;refine oE h λAy Bi h=>Qcz Bi Qyn z m 1 Ao (News.rd (m.q Bb 0 z)) z z k z z z z z z z λAx Az Bl a k e m Bc=>ul 10 k z λk=>?_;exact ⟨_,_,_,_,_,k.p z,m.sl [1] z,Bc,h⟩
     refine uc 3 k z λk=>?_;exact ⟨_,_,_,_,_,k.p z,m.sl [0] z,Ao,h⟩
   refine oE h λAq Bk h=>uc 10 k z λk=>sv k z (Jix Bk k underlying9 z z z) λa k=>sB (cs:=[.string (Aq)]) (ps:=[(0,.tmp 32)]) Qyn m k z (by exact fC z fN) λBn Bq Bp a k m e Ba=>?_;have Bg:=Qai Ba ([Aq]:List ByteArray) z z z;refine oE h λBy At h=>Qcz At Qyn z m 1 Ao (News.rd (m.q Bg 0 z)) z z k z z z z z z z λBs Aw Bw a k e m Bf=>ul 4 k z λk=>?_;cases h;exact Qbj k z (RV.tmp k z) ⟨_,Aw,z,m.ext,(m.v Bf 1 z),(m.fresh 1 z)⟩
 exact ⟨_,_,_,_,_,_,k.p z,m.sl [0] z,Bj,h⟩
theorem Q02 (fu:Nat) {w0:World} (hT:Te Tryz.prog w0) (x1:ByteArray) {r:Int×Bool}
    (h:Qty fu x1=some r) :
    Calls Tryz.prog 243 #[.string x1] w0 λe w=>∃ (v0:Value),e=.returned (.tuple #[I r.1,v0])∧Ext [] w0 w∧isErr v0 r.2 :=
  Jiw (λs h1 v h2 w=>Tryz.strconv_Atoi_ok s h1 v h2 w) (λs h1 h2 tp p w hv=>(Tryz.strconv_Atoi_syntax_var s h1 h2 tp p w hv).mono λe w ⟨n,he,_,_,hb⟩=>⟨_,_,he,hb⟩) (λs h1 h2 tp p w hv=>(Tryz.strconv_Atoi_range_var s h1 h2 tp p w hv).mono λe w ⟨n,he,_,_,hb⟩=>⟨_,_,he,hb⟩) hT x1 h
theorem Qax (fu) {w0} (n1 Ab Ac) {r} (h:Qau fu n1 Ab Ac=some r):cS 57 [I n1,I Ab,I Ac] w0 (.bool (r)):=by
 refine eg func57 z ntmps57 z λk m=>uc 11 k z λk=>bS h k 10 z (λ_ h k=>?_) λ_ h k=>?_
 · refine ul 8 k z λk=>fS h k m z z
 refine ul 8 k z λk=>fS h k m z z
theorem Q0z (fu:Nat) {w0:World} (hT:Te Tryz.prog w0) (x1:Int) {r:ByteArray}
    (h:Qtq fu x1=some r) :
    Calls Tryz.prog 182 #[I x1] w0 λe w=>e=.returned (.string r)∧Ext [] w0 w :=
  Jjw (λn h0 h1 w ht=>Tryz.strconv_Itoa n h0 h1 w ht) hT.t x1 h
theorem Qwe (fu) {w0} (hT:Te Tryz.prog w0) (n1) {r} (h:Qpa fu n1=some r):cS 106 [I n1] w0 (.string (r)):=by
 refine eg func106 z ntmps106 z λk m=>oE h λx2 Aa h=>uc 8 k z λk=>cC k m call182 z (Q0z fu (m.te hT) _  Aa) λw5 e a k m=>ul 4 k z λk=>fS h k m z z
theorem Q3i (fu) {w0} (hT:Te Tryz.prog w0) (Ac) {r} (h:Qii fu Ac=some r):cS 181 [.string (Ac)] w0 (.tuple #[I r.1,.bool (r.2)]):=by
 refine eg func181 z ntmps181 z λk m=>oE h λx2 Af h=>uc 9 k z λk=>sC k call243 z (Q02 fu (m.te hT) _  Af) λe4 w5 hR=>?_;obtain ⟨v6,rfl,e,Ag⟩:=hR;refine ⟨_,z,λa k=>?_⟩;have m:=m.step e;refine ul 7 k z λk=>cg (λa w=>K 25 [(4,I x2.1)] a∧St [] w0 w []∧Qrs fu x2=some r) ?_ ?_
 · rintro a Ak ⟨k,m,h⟩;refine uc 8 k z λk=>?_;cases h;exact Qdx k z (RV.tmp k z) (RV.tmp k z) ⟨z,m.ext⟩
 refine uc 3 k z λk=>sv k z (Jlr Ag k (by kernel_rfl) z z z) λa k=>pN 1 k z λa k=>bS h k 13 z (λ_ h k=>?_) λ_ h k=>?_
 · refine ul 21 k z λk=>?_;cases h;exact Qdx k z (RV.tmp k z) (RV.tmp k z) ⟨z,m.ext⟩
 refine pN 1 k z λa k=>oE h λAd Ai h=>cC k m call57 z (Qax fu _ _ _  Ai) λAl e a k m=>pN 3 k z λa k=>bS h k 18 z (λ_ h k=>?_) λ_ h k=>?_
 · refine ul 16 k z λk=>?_;cases h;exact Qdx k z (RV.tmp k z) (RV.tmp k z) ⟨z,m.ext⟩
 refine pN 1 k z λa k=>oE h λAj Ah h=>cC k m call106 z (Qwe fu (m.te hT) _  Ah) λAm e a k m=>ul 5 k z λk=>cJ h k z (λh=>?_) λh=>?_
 · refine uc 8 k z λk=>?_;cases h;exact Qdx k z (RV.tmp k z) (RV.tmp k z) ⟨z,m.ext⟩
 refine uc 2 k z λk=>?_;exact ⟨k.p z,m.sl [] z,h⟩
theorem Qhs (fu) {w0} (hT:Te Tryz.prog w0) (Aj Af Ap) {r} (h:Qbo fu Aj Af Ap=some r):Calls Tryz.prog 103 #[.string (Aj),.string (Af),I Ap] w0 λe w=>∃ (v0:Value) (G0:List Nat),e=.returned (.tuple #[v0,.bool (r.2)])∧Ext [] w0 w∧ow w G0 [v0] r.1∧(∀ b∈G0,w0.heap.size≤b):=by
 refine eg (vs:=[_,_,_]) func103 z ntmps103 z λk m=>oE h λx4 Bd h=>uc 9 k z λk=>sL k m call38 z (Qs8 fu _ _  Bd) λw7 Bi F8 Aa k m=>ul 3 k z λk=>cg (λa w=>K 49 [(8,Bi)] a∧St [] w0 w [(F8,w7)]∧Qpn fu x4=some r) ?_ ?_
 · rintro a Bp ⟨k,m,h⟩;refine uc 2 k z λk=>sB (cs:=[]) (ps:=[]) Qbe m k z (by exact fN) λAk Bg Bn a k m e Bj=>?_;have Bb:=Qai Bj ([]:List Int) z z z;refine oE h λAr Ay h=>ul 7 k z λk=>Q4d Aa Ay k Jle z z z z z z λBc a k Ai=>gl 5 [lF (Enc.ow_rd Ai)] k z λk=>lG (λn a w=>∃ Ag Ah Ad Ae Ac,K 49 [(9,Ah),(30,Bc),(31,I (Ar.length:Int)),(32,I Ac)] a∧St [] w0 w [(F8,w7),(Ad,Ae)]∧ow Ae Ad [Ah] Ag∧Qe3 fu Ar n Ag Ac=some r) ?_ fu ?_
   · rintro Br a Bt ⟨Ag,Ah,Ad,Ae,Ac,k,m,Al,h⟩;refine uc 6 k z λk=>cJ h k z (λh=>?_) λh=>?_
     · refine o2 h λBs Aq Am Bl h=>gc 14 [iF (Enc.ow_rd Ai) Aq,eF (m.q Ai 0 z) Aq 0] k z λk=>cC k m call181 z (Q3i fu (m.te hT) _  Bl) λBu e a k m=>ul 14 k z λk=>cJ h k z (λh=>?_) λh=>?_
       · refine uc 13 k z λk=>?_;cases h;exact Qdx k z (RV.tmp k z) (RV.tmp k z) ⟨_,[],z,m.ext,(Qaw _),(by simp)⟩
       refine uc 5 k z λk=>sB (cs:=[I Am.1]) (ps:=[(0,.tmp 44)]) Qbe m k z (by exact fC z fN) λBv Bq Bo a k m e Be=>?_;have Ax:=Qai Be ([Am.1]:List Int) z z z;refine oE h λBk As h=>Qcz As Qbe z m 2 Al (News.rd (m.q Ax 0 z)) z z k z z z z z z z λBh Aw Av a k e m Au=>ul 9 k z λk=>?_;exact ⟨_,_,_,_,_,k.p z,m.sl [1,2] z,Au,h⟩
     refine uc 13 k z λk=>?_;cases h;exact Qdx k z (RV.tmp k z) (RV.tmp k z) ⟨_,Ad,z,m.ext,(m.v Al 1 z),(m.fresh 1 z)⟩
   exact ⟨_,_,_,_,_,k.p z,m.sl [1,0] z,Bb,h⟩
 refine oE h λAz Ao h=>gc 8 [iF (Enc.ow_rd Aa) Ao,eF (m.q Aa 0 z) Ao 0] k z λk=>bS h k 21 z (λ_ h k=>?_) λ_ h k=>?_
 · refine ul 17 k z λk=>?_;cases h;exact Qdx k z (RV.tmp k z) (RV.tmp k z) ⟨_,[],z,m.ext,(Qaw _),(by simp)⟩
 refine gl 8 [lF (Enc.ow_rd Aa)] k z λk=>cJ h k z (λh=>?_) λh=>?_
 · refine uc 8 k z λk=>?_;cases h;exact Qdx k z (RV.tmp k z) (RV.tmp k z) ⟨_,[],z,m.ext,(Qaw _),(by simp)⟩
 refine uc 2 k z λk=>?_;exact ⟨k.p z,m.sl [0] z,h⟩
theorem Q0p (fu) {w0} (r1 Cn) {F2 b3} (Cu:obx w0 F2 b3 r1 37) (hT:∀ w1,Ext F2 w0 w1→Te Tryz.prog w1) {r} (h:Qqh fu r1 Cn=some r):Calls Tryz.prog 39 #[.pointer (some ⟨b3,0,none⟩),.string (Cn)] w0 λe w=>∃ (H0:List Nat),e=.returned (I r.1)∧Ext F2 w0 w∧(∀ b∈H0,b∈F2∨w0.heap.size≤b)∧obx w H0 b3 r.2 37:=by
 refine eg (vs:=[_,_]) func39 z ntmps39 z λk _=>?_;obtain ⟨v6,F7,v9,Ad,Aj,Ae,Aa,Ag,Ah,Af,m⟩:=Cu.start;refine uc 18 k z λk=>cJ h k z (λh=>?_) λh=>?_
 · refine uc 5 k z λk=>sT (cs':=[I 0,I r1.fJ.fW,I r1.fJ.fD,I r1.fJ.fH,I r1.fJ.fQ,I r1.fU,v6,v9,I r1.fR,Aj]) sizeOf3 m 0 Aa 0 k z z λHj a k e m Dz=>ul 10 k z λk=>?_;cases h;exact Qbj k z (RV.tmp k z) ⟨([b3]++(F7++(Ad++Ae))),z,m.ext,(λb hb=>(m.sl [0,1,2,3] z).lo b (by simpa [fps] using hb)),(obx.fin (x:=(⟨0,r1.fJ,r1.fU,r1.fT,r1.fG,r1.fR,r1.fV⟩:Request)) (m.y Dz 0 z) (m.v Ag 1 z) (m.v Ah 2 z) (m.v Af 3 z) (by simpa [fps] using (m.sl [0,1,2,3] z).nd))⟩
 refine uc 6 k z λk=>cJ h k z (λh=>?_) λh=>?_
 · refine uc 5 k z λk=>sT (cs':=[I 1,I r1.fJ.fW,I r1.fJ.fD,I r1.fJ.fH,I r1.fJ.fQ,I r1.fU,v6,v9,I r1.fR,Aj]) sizeOf3 m 0 Aa 0 k z z λIt a k e m Dj=>ul 10 k z λk=>?_;cases h;exact Qbj k z (RV.tmp k z) ⟨([b3]++(F7++(Ad++Ae))),z,m.ext,(λb hb=>(m.sl [0,1,2,3] z).lo b (by simpa [fps] using hb)),(obx.fin (x:=(⟨1,r1.fJ,r1.fU,r1.fT,r1.fG,r1.fR,r1.fV⟩:Request)) (m.y Dj 0 z) (m.v Ag 1 z) (m.v Ah 2 z) (m.v Af 3 z) (by simpa [fps] using (m.sl [0,1,2,3] z).nd))⟩
 refine oE h λHx Gd h=>uc 7 k z λk=>sC k call103 z (Qhs fu (hT _ m.ext) _ _ _  Gd) λGu Hn hR=>?_;obtain ⟨Ix,Dk,rfl,e,Ai,Fc⟩:=hR;refine ⟨_,z,λa k=>?_⟩;have m:=m.nw e Fc Ai;refine ul 12 k z λk=>cJ h k z (λh=>?_) λh=>?_
 · refine uc 1 k z λk=>Qg0 ([b3]) Qgf m z λEt hMd=>?_;have m:=hMd;have s:=Ext.refl (([b3]):List Nat) Et;refine dM [0,1,4,7,10] 5 z k z s λa k=>oE h λBm Br h=>dT k 2 z z s (λw s=>Qci (Enc.ow_rd Ai) Br k Qlm z z z) λa k=>dT k 3 z z s (λw s=>Qcq (Enc.ow_rd Ai) (hMd.az 0 1 z z z s) Br 0 t13 k z z z z) λa k=>oE h λBf Bu h=>dT k 5 z z s (λw s=>Qci (Enc.ow_rd Ai) Bu k Qlm z z z) λa k=>dT k 6 z z s (λw s=>Qcq (Enc.ow_rd Ai) (hMd.az 0 1 z z z s) Bu 0 t13 k z z z z) λa k=>oE h λBg By h=>dT k 8 z z s (λw s=>Qci (Enc.ow_rd Ai) By k Qlm z z z) λa k=>dT k 9 z z s (λw s=>Qcq (Enc.ow_rd Ai) (hMd.az 0 1 z z z s) By 0 t13 k z z z z) λa k=>oE h λBh Bo h=>dT k 11 z z s (λw s=>Qci (Enc.ow_rd Ai) Bo k Qlm z z z) λa k=>dT k 12 z z s (λw s=>Qcq (Enc.ow_rd Ai) (hMd.az 0 1 z z z s) Bo 0 t13 k z z z z) λa k=>dT k 13 z z s (λw s=>Qag Jlc k (cs:=#[I Bm,I Bf,I Bg,I Bh]) (ps:=[(0,.tmp 37),(1,.tmp 40),(2,.tmp 43),(3,.tmp 46)]) z z (by kernel_rfl)) λa k=>dT k 14 z z s (λw s=>Qn5 k z z) λa k=>?_;refine dF k 15 Q7p z s λa k=>dG 16 z (sT (cs':=[I r1.f9,I Bm,I Bf,I Bg,I Bh,I r1.fU,v6,v9,I r1.fR,Aj]) sizeOf32 m 1 Aa 1 k z z λHv a k e m Fp=>?_);have s:=s.trans e (λy hy=>Or.inl hy);refine wpList_nil ⟨s,?_⟩;refine dD ?_;refine (Qad ?_);refine uc 7 k z λk=>?_;cases h;exact Qbj k z (RV.tmp k z) ⟨([b3]++(F7++(Ad++Ae))),z,m.ext,(λb hb=>(m.sl [1,2,3,4] z).lo b (by simpa [fps] using hb)),(obx.fin (x:=(⟨r1.f9,(⟨Bm,Bf,Bg,Bh⟩:Pallet),r1.fU,r1.fT,r1.fG,r1.fR,r1.fV⟩:Request)) (m.y Fp 1 z) (m.v Ag 2 z) (m.v Ah 3 z) (m.v Af 4 z) (by simpa [fps] using (m.sl [1,2,3,4] z).nd))⟩
 refine oE h λIc Ds h=>uc 6 k z λk=>sC k call103 z (Qhs fu (hT _ m.ext) _ _ _  Ds) λGp Hy hR=>?_;obtain ⟨Iz,Ex,rfl,e,Bd,Dr⟩:=hR;refine ⟨_,z,λa k=>?_⟩;have m:=m.nw e Dr Bd;refine ul 12 k z λk=>cJ h k z (λh=>?_) λh=>?_
 · refine oE h λCm Cb h=>gc 8 [iF (Enc.ow_rd Bd) Cb,eF (m.q Bd 0 z) Cb 0] k z λk=>sT (cs':=[I r1.f9,I r1.fJ.fW,I r1.fJ.fD,I r1.fJ.fH,I r1.fJ.fQ,I Cm,v6,v9,I r1.fR,Aj]) sizeOf3 m 2 Aa 5 k z z λIj a k e m Eb=>ul 9 k z λk=>?_;cases h;exact Qbj k z (RV.tmp k z) ⟨([b3]++(F7++(Ad++Ae))),z,m.ext,(λb hb=>(m.sl [2,3,4,5] z).lo b (by simpa [fps] using hb)),(obx.fin (x:=(⟨r1.f9,r1.fJ,Cm,r1.fT,r1.fG,r1.fR,r1.fV⟩:Request)) (m.y Eb 2 z) (m.v Ag 3 z) (m.v Ah 4 z) (m.v Af 5 z) (by simpa [fps] using (m.sl [2,3,4,5] z).nd))⟩
 refine oE h λGt Ff h=>uc 6 k z λk=>sC k call103 z (Qhs fu (hT _ m.ext) _ _ _  Ff) λGh Ib hR=>?_;obtain ⟨Hz,Fv,rfl,e,Ak,Fy⟩:=hR;refine ⟨_,z,λa k=>?_⟩;have m:=m.nw e Fy Ak;refine ul 12 k z λk=>cJ h k z (λh=>?_) λh=>?_
 · refine uc 1 k z λk=>Qg0 (F7++([b3])) Qgf m z λDe hMd=>?_;have m:=hMd;have s:=Ext.refl ((F7++([b3])):List Nat) De;have hMj:=(hMd.sel [4,3,0,1,2,5,6] z (by decide)).join2;refine dM [0,1,5,8] 4 z k z s λa k=>dT k 2 z z s (λw s=>Qn5 k z z) λa k=>dF k 3 Qtb z s λa k=>oE h λAw Ch h=>dT k 6 z z s (λw s=>Qci (Enc.ow_rd Ak) Ch k Qlm z z z) λa k=>dT k 7 z z s (λw s=>Qcq (Enc.ow_rd Ak) (hMj.az 1 0 z z z s) Ch 0 t13 k z z z z) λa k=>oE h λBb Ck h=>dT k 9 z z s (λw s=>Qci (Enc.ow_rd Ak) Ck k Qlm z z z) λa k=>dT k 10 z z s (λw s=>Qcq (Enc.ow_rd Ak) (hMj.az 1 0 z z z s) Ck 0 t13 k z z z z) λa k=>dT k 11 z z s (λw s=>Qag Jf4 k (cs:=#[I Aw,I Bb]) (ps:=[(0,.tmp 75),(1,.tmp 78)]) z z (by kernel_rfl)) λa k=>dG2 4 12 (by kernel_rfl) z z ?_ ?_
   · refine gl 1 [bF m 3 Aa z] k z λk=>wpList_nil ⟨s,?_⟩;refine dG 12 z (Qbw (cs:=[I Aw,I Bb]) (ps:=[(0,.tmp 79)]) Q6q m k z z z z z z z (by decide) z (by exact fC z fN) λHa Gw Gk a k m e Ez Eg=>?_);have Il:=lo1 (Nat.le_trans s.size Eg);have Df:=Qai Ez ([(⟨Aw,Bb⟩:Pair)]:List Pair) z z z;refine ns s e λs=>dG 13 z (oE h λEr Fz h=>Qap Fz Q6q z m 5 Ag (News.rd (m.q Df 0 z)) z z k z z z z z z z λEw Ca Hm a k e m Bl Fi=>?_);have Im:∀ y∈Ca,y∈(F7++([b3]))∨_≤y:=λy hy=>(Fi y hy).elim (λhy=>(λy hy=>Or.inl (List.mem_append_left _ hy)) y hy) (λh=>Or.inr (Nat.le_trans s.size h));have s:=s.trans e (λy hy=>Or.inl (List.mem_append_left _ hy));refine wpList_nil ⟨s,?_⟩;refine dT k 14 z z s (λw s=>Qn5 k z z) λa k=>dF k 15 Qtb z s λa k=>dG 16 z (Qfi (cs':=(cR r1 Ew v9 Aj)) sizeOf33 m 4 Aa 6 k (Qid (Enc.ow_rd Bl)) (Qee (Enc.ow_rd Bl)) z z z z z z z z z λHp a k e m Dw=>?_);have s:=s.trans e (λy hy=>Or.inl (List.mem_append_right _ hy));refine wpList_nil ⟨s,?_⟩;refine dD ((Qad ?_));refine uc 7 k z λk=>?_;cases h;exact Qbj k z (RV.tmp k z) ⟨([b3]++(Ca++(Ad++Ae))),z,m.ext,(λb hb=>(m.sl [4,5,6,7] z).lo b (by simpa [fps] using hb)),(obx.fin (x:=(⟨r1.f9,r1.fJ,r1.fU,Er,r1.fG,r1.fR,r1.fV⟩:Request)) (m.y Dw 4 z) (m.v Bl 5 z) (m.v Ah 6 z) (m.v Af 7 z) (by simpa [fps] using (m.sl [4,5,6,7] z).nd))⟩
   refine Qbw (cs:=[I Aw,I Bb]) (ps:=[(0,.tmp 79)]) Q6q m k z z z z z z z (by decide) z (by exact fC z fN) λGy Ir Gn a k m e Dt Fq=>?_;have Ig:=lo1 (Nat.le_trans s.size Fq);have Di:=Qai Dt ([(⟨Aw,Bb⟩:Pair)]:List Pair) z z z;refine ns s e λs=>dG 4 z (gl 1 [bF m 4 Aa z] k z λk=>wpList_nil ⟨s,?_⟩);refine dG 13 z (oE h λDd Ej h=>Qap Ej Q6q z m 5 Ag (News.rd (m.q Di 0 z)) z z k z z z z z z z λDq Cq Is a k e m Bn En=>?_);have Ie:∀ y∈Cq,y∈(F7++([b3]))∨_≤y:=λy hy=>(En y hy).elim (λhy=>(λy hy=>Or.inl (List.mem_append_left _ hy)) y hy) (λh=>Or.inr (Nat.le_trans s.size h));have s:=s.trans e (λy hy=>Or.inl (List.mem_append_left _ hy));refine wpList_nil ⟨s,?_⟩;refine dT k 14 z z s (λw s=>Qn5 k z z) λa k=>dF k 15 Qtb z s λa k=>dG 16 z (Qfi (cs':=(cR r1 Dq v9 Aj)) sizeOf33 m 4 Aa 6 k (Qid (Enc.ow_rd Bn)) (Qee (Enc.ow_rd Bn)) z z z z z z z z z λHo a k e m Dv=>?_);have s:=s.trans e (λy hy=>Or.inl (List.mem_append_right _ hy));refine wpList_nil ⟨s,?_⟩;refine dD ((Qad ?_));refine uc 7 k z λk=>?_;cases h;exact Qbj k z (RV.tmp k z) ⟨([b3]++(Cq++(Ad++Ae))),z,m.ext,(λb hb=>(m.sl [4,5,6,7] z).lo b (by simpa [fps] using hb)),(obx.fin (x:=(⟨r1.f9,r1.fJ,r1.fU,Dd,r1.fG,r1.fR,r1.fV⟩:Request)) (m.y Dv 4 z) (m.v Bn 5 z) (m.v Ah 6 z) (m.v Af 7 z) (by simpa [fps] using (m.sl [4,5,6,7] z).nd))⟩
 refine oE h λHh Fu h=>uc 6 k z λk=>sC k call103 z (Qhs fu (hT _ m.ext) _ _ _  Fu) λIo Ge hR=>?_;obtain ⟨Hf,Cw,rfl,e,Ac,Cx⟩:=hR;refine ⟨_,z,λa k=>?_⟩;have m:=m.nw e Cx Ac;refine ul 12 k z λk=>cJ h k z (λh=>?_) λh=>?_
 · refine uc 1 k z λk=>Qg0 (Ad++([b3])) Qgf m z λEs hMd=>?_;have m:=hMd;have s:=Ext.refl ((Ad++([b3])):List Nat) Es;have hMj:=(hMd.sel [6,4,0,1,2,3,5,7] z (by decide)).join2;refine dM [0,1,5,8,11,14,17,20,23] 9 z k z s λa k=>dT k 2 z z s (λw s=>Qn5 k z z) λa k=>dF k 3 Qie z s λa k=>oE h λAm Bx h=>dT k 6 z z s (λw s=>Qci (Enc.ow_rd Ac) Bx k Qlm z z z) λa k=>dT k 7 z z s (λw s=>Qcq (Enc.ow_rd Ac) (hMj.az 1 0 z z z s) Bx 0 t13 k z z z z) λa k=>oE h λAp Bz h=>dT k 9 z z s (λw s=>Qci (Enc.ow_rd Ac) Bz k Qlm z z z) λa k=>dT k 10 z z s (λw s=>Qcq (Enc.ow_rd Ac) (hMj.az 1 0 z z z s) Bz 0 t13 k z z z z) λa k=>oE h λAq Cd h=>dT k 12 z z s (λw s=>Qci (Enc.ow_rd Ac) Cd k Qlm z z z) λa k=>dT k 13 z z s (λw s=>Qcq (Enc.ow_rd Ac) (hMj.az 1 0 z z z s) Cd 0 t13 k z z z z) λa k=>oE h λAt Bv h=>dT k 15 z z s (λw s=>Qci (Enc.ow_rd Ac) Bv k Qlm z z z) λa k=>dT k 16 z z s (λw s=>Qcq (Enc.ow_rd Ac) (hMj.az 1 0 z z z s) Bv 0 t13 k z z z z) λa k=>oE h λAu Bp h=>?_;refine dT k 18 z z s (λw s=>Qci (Enc.ow_rd Ac) Bp k Qlm z z z) λa k=>dT k 19 z z s (λw s=>Qcq (Enc.ow_rd Ac) (hMj.az 1 0 z z z s) Bp 0 t13 k z z z z) λa k=>oE h λAl Cg h=>dT k 21 z z s (λw s=>Qci (Enc.ow_rd Ac) Cg k Qlm z z z) λa k=>dT k 22 z z s (λw s=>Qcq (Enc.ow_rd Ac) (hMj.az 1 0 z z z s) Cg 0 t13 k z z z z) λa k=>oE h λAy Cp h=>dT k 24 z z s (λw s=>Qci (Enc.ow_rd Ac) Cp k Qlm z z z) λa k=>dT k 25 z z s (λw s=>Qcq (Enc.ow_rd Ac) (hMj.az 1 0 z z z s) Cp 0 t13 k z z z z) λa k=>dT k 26 z z s (λw s=>Qag Q49 k (cs:=#[I Am,I Ap,I Aq,I At,I Au,I Al,I Ay]) (ps:=[(0,.tmp 97),(1,.tmp 100),(2,.tmp 103),(3,.tmp 106),(4,.tmp 109),(5,.tmp 112),(6,.tmp 115)]) z z (by kernel_rfl)) λa k=>dG2 4 27 (by kernel_rfl) z z ?_ ?_
   · refine gl 1 [bF m 4 Aa z] k z λk=>wpList_nil ⟨s,?_⟩;refine dG 27 z (Qbw (cs:=[I Am,I Ap,I Aq,I At,I Au,I Al,I Ay]) (ps:=[(0,.tmp 116)]) Qva m k z z z z z z z (by decide) z (by exact fC z fN) λGq Ik Gx a k m e Fh Ep=>?_);have Ia:=lo1 (Nat.le_trans s.size Ep);have Ed:=Qai Fh ([(⟨Am,Ap,Aq,At,Au,Al,Ay⟩:Typ)]:List Typ) z z z;refine ns s e λs=>dG 28 z (oE h λEh Fn h=>Qap Fn Qva z m 7 Ah (News.rd (m.q Ed 0 z)) z z k z z z z z z z λDp Bw Hc a k e m Bi Cv=>?_);have Iw:∀ y∈Bw,y∈(Ad++([b3]))∨_≤y:=λy hy=>(Cv y hy).elim (λhy=>(λy hy=>Or.inl (List.mem_append_left _ hy)) y hy) (λh=>Or.inr (Nat.le_trans s.size h));have s:=s.trans e (λy hy=>Or.inl (List.mem_append_left _ hy));refine wpList_nil ⟨s,?_⟩;refine dT k 29 z z s (λw s=>Qn5 k z z) λa k=>dF k 30 Qie z s λa k=>dG 31 z (Qfi (cs':=(cR r1 v6 Dp Aj)) sizeOf34 m 5 Aa 7 k (Qid (Enc.ow_rd Bi)) (Qee (Enc.ow_rd Bi)) z z z z z z z z z λHb a k e m Dh=>?_);have s:=s.trans e (λy hy=>Or.inl (List.mem_append_right _ hy));refine wpList_nil ⟨s,?_⟩;refine dD ?_;refine (Qad ?_);refine uc 7 k z λk=>?_;cases h;exact Qbj k z (RV.tmp k z) ⟨([b3]++(F7++(Bw++Ae))),z,m.ext,(λb hb=>(m.sl [5,6,7,8] z).lo b (by simpa [fps] using hb)),(obx.fin (x:=(⟨r1.f9,r1.fJ,r1.fU,r1.fT,Eh,r1.fR,r1.fV⟩:Request)) (m.y Dh 5 z) (m.v Ag 6 z) (m.v Bi 7 z) (m.v Af 8 z) (by simpa [fps] using (m.sl [5,6,7,8] z).nd))⟩
   refine Qbw (cs:=[I Am,I Ap,I Aq,I At,I Au,I Al,I Ay]) (ps:=[(0,.tmp 116)]) Qva m k z z z z z z z (by decide) z (by exact fC z fN) λHt Iy Gr a k m e Fl Dm=>?_;have If:=lo1 (Nat.le_trans s.size Dm);have Do:=Qai Fl ([(⟨Am,Ap,Aq,At,Au,Al,Ay⟩:Typ)]:List Typ) z z z;refine ns s e λs=>dG 4 z (gl 1 [bF m 5 Aa z] k z λk=>wpList_nil ⟨s,?_⟩);refine dG 28 z (oE h λEy Dy h=>Qap Dy Qva z m 7 Ah (News.rd (m.q Do 0 z)) z z k z z z z z z z λEc Cl Gj a k e m Bj Du=>?_);have Ii:∀ y∈Cl,y∈(Ad++([b3]))∨_≤y:=λy hy=>(Du y hy).elim (λhy=>(λy hy=>Or.inl (List.mem_append_left _ hy)) y hy) (λh=>Or.inr (Nat.le_trans s.size h));have s:=s.trans e (λy hy=>Or.inl (List.mem_append_left _ hy));refine wpList_nil ⟨s,?_⟩;refine dT k 29 z z s (λw s=>Qn5 k z z) λa k=>dF k 30 Qie z s λa k=>dG 31 z (Qfi (cs':=(cR r1 v6 Ec Aj)) sizeOf34 m 5 Aa 7 k (Qid (Enc.ow_rd Bj)) (Qee (Enc.ow_rd Bj)) z z z z z z z z z λHl a k e m Fw=>?_);have s:=s.trans e (λy hy=>Or.inl (List.mem_append_right _ hy));refine wpList_nil ⟨s,?_⟩;refine dD ?_;refine (Qad ?_);refine uc 7 k z λk=>?_;cases h;exact Qbj k z (RV.tmp k z) ⟨([b3]++(F7++(Cl++Ae))),z,m.ext,(λb hb=>(m.sl [5,6,7,8] z).lo b (by simpa [fps] using hb)),(obx.fin (x:=(⟨r1.f9,r1.fJ,r1.fU,r1.fT,Ey,r1.fR,r1.fV⟩:Request)) (m.y Fw 5 z) (m.v Ag 6 z) (m.v Bj 7 z) (m.v Af 8 z) (by simpa [fps] using (m.sl [5,6,7,8] z).nd))⟩
 refine oE h λGi Cy h=>uc 6 k z λk=>sC k call103 z (Qhs fu (hT _ m.ext) _ _ _  Cy) λGz Iu hR=>?_;obtain ⟨Iq,Fm,rfl,e,Bc,Fd⟩:=hR;refine ⟨_,z,λa k=>?_⟩;have m:=m.nw e Fd Bc;refine ul 12 k z λk=>cJ h k z (λh=>?_) λh=>?_
 · refine oE h λCt Cs h=>gc 8 [iF (Enc.ow_rd Bc) Cs,eF (m.q Bc 0 z) Cs 0] k z λk=>sT (cs':=[I r1.f9,I r1.fJ.fW,I r1.fJ.fD,I r1.fJ.fH,I r1.fJ.fQ,I r1.fU,v6,v9,I Ct,Aj]) sizeOf3 m 5 Aa 8 k z z λGl a k e m Gb=>ul 9 k z λk=>?_;cases h;exact Qbj k z (RV.tmp k z) ⟨([b3]++(F7++(Ad++Ae))),z,m.ext,(λb hb=>(m.sl [5,6,7,8] z).lo b (by simpa [fps] using hb)),(obx.fin (x:=(⟨r1.f9,r1.fJ,r1.fU,r1.fT,r1.fG,Ct,r1.fV⟩:Request)) (m.y Gb 5 z) (m.v Ag 6 z) (m.v Ah 7 z) (m.v Af 8 z) (by simpa [fps] using (m.sl [5,6,7,8] z).nd))⟩
 refine oE h λHk Fa h=>uc 6 k z λk=>sC k call103 z (Qhs fu (hT _ m.ext) _ _ _  Fa) λHr Hu hR=>?_;obtain ⟨Hw,Ef,rfl,e,Ab,Eu⟩:=hR;refine ⟨_,z,λa k=>?_⟩;have m:=m.nw e Eu Ab;refine ul 12 k z λk=>cJ h k z (λh=>?_) λh=>?_
 · refine uc 1 k z λk=>Qg0 (Ae++([b3])) Qgf m z λFt hMd=>?_;have m:=hMd;have s:=Ext.refl ((Ae++([b3])):List Nat) Ft;have hMj:=(hMd.sel [9,6,0,1,2,3,4,5,7,8] z (by decide)).join2;refine dM [0,1,5,8,11,14,17,20,23] 9 z k z s λa k=>dT k 2 z z s (λw s=>Qn5 k z z) λa k=>dF k 3 Quq z s λa k=>oE h λAz Ce h=>dT k 6 z z s (λw s=>Qci (Enc.ow_rd Ab) Ce k Qlm z z z) λa k=>dT k 7 z z s (λw s=>Qcq (Enc.ow_rd Ab) (hMj.az 1 0 z z z s) Ce 0 t13 k z z z z) λa k=>oE h λAx Co h=>dT k 9 z z s (λw s=>Qci (Enc.ow_rd Ab) Co k Qlm z z z) λa k=>dT k 10 z z s (λw s=>Qcq (Enc.ow_rd Ab) (hMj.az 1 0 z z z s) Co 0 t13 k z z z z) λa k=>oE h λAs Cj h=>dT k 12 z z s (λw s=>Qci (Enc.ow_rd Ab) Cj k Qlm z z z) λa k=>dT k 13 z z s (λw s=>Qcq (Enc.ow_rd Ab) (hMj.az 1 0 z z z s) Cj 0 t13 k z z z z) λa k=>oE h λBa Bs h=>dT k 15 z z s (λw s=>Qci (Enc.ow_rd Ab) Bs k Qlm z z z) λa k=>dT k 16 z z s (λw s=>Qcq (Enc.ow_rd Ab) (hMj.az 1 0 z z z s) Bs 0 t13 k z z z z) λa k=>oE h λAr Ci h=>?_;refine dT k 18 z z s (λw s=>Qci (Enc.ow_rd Ab) Ci k Qlm z z z) λa k=>dT k 19 z z s (λw s=>Qcq (Enc.ow_rd Ab) (hMj.az 1 0 z z z s) Ci 0 t13 k z z z z) λa k=>oE h λAo Cr h=>dT k 21 z z s (λw s=>Qci (Enc.ow_rd Ab) Cr k Qlm z z z) λa k=>dT k 22 z z s (λw s=>Qcq (Enc.ow_rd Ab) (hMj.az 1 0 z z z s) Cr 0 t13 k z z z z) λa k=>oE h λAv Bt h=>dT k 24 z z s (λw s=>Qci (Enc.ow_rd Ab) Bt k Qlm z z z) λa k=>dT k 25 z z s (λw s=>Qcq (Enc.ow_rd Ab) (hMj.az 1 0 z z z s) Bt 0 t13 k z z z z) λa k=>dT k 26 z z s (λw s=>Qag Jbf k (cs:=#[I Az,I Ax,I As,I Ba,I Ar,I Ao,I Av]) (ps:=[(0,.tmp 146),(1,.tmp 149),(2,.tmp 152),(3,.tmp 155),(4,.tmp 158),(5,.tmp 161),(6,.tmp 164)]) z z (by kernel_rfl)) λa k=>dG2 4 27 (by kernel_rfl) z z ?_ ?_
   · refine gl 1 [bF m 6 Aa z] k z λk=>wpList_nil ⟨s,?_⟩;refine dG 27 z (Qbw (cs:=[I Az,I Ax,I As,I Ba,I Ar,I Ao,I Av]) (ps:=[(0,.tmp 165)]) Q3x m k z z z z z z z (by decide) z (by exact fC z fN) λIp Ih Hd a k m e Dx Db=>?_);have Gg:=lo1 (Nat.le_trans s.size Db);have Ea:=Qai Dx ([(⟨Az,Ax,As,Ba,Ar,Ao,Av⟩:Item)]:List Item) z z z;refine ns s e λs=>dG 28 z (oE h λEe Fj h=>Qap Fj Q3x z m 10 Af (News.rd (m.q Ea 0 z)) z z k z z z z z z z λFg Bq Gm a k e m Bk Ek=>?_);have Hi:∀ y∈Bq,y∈(Ae++([b3]))∨_≤y:=λy hy=>(Ek y hy).elim (λhy=>(λy hy=>Or.inl (List.mem_append_left _ hy)) y hy) (λh=>Or.inr (Nat.le_trans s.size h));have s:=s.trans e (λy hy=>Or.inl (List.mem_append_left _ hy));refine wpList_nil ⟨s,?_⟩;refine dT k 29 z z s (λw s=>Qn5 k z z) λa k=>dF k 30 Quq z s λa k=>dG 31 z (Qfi (cs':=(cR r1 v6 v9 Fg)) sizeOf35 m 7 Aa 9 k (Qid (Enc.ow_rd Bk)) (Qee (Enc.ow_rd Bk)) z z z z z z z z z λIv a k e m Fb=>?_);have s:=s.trans e (λy hy=>Or.inl (List.mem_append_right _ hy));refine wpList_nil ⟨s,?_⟩;refine dD ?_;refine (Qad ?_);refine uc 7 k z λk=>?_;cases h;exact Qbj k z (RV.tmp k z) ⟨([b3]++(F7++(Ad++Bq))),z,m.ext,(λb hb=>(m.sl [7,8,9,10] z).lo b (by simpa [fps] using hb)),(obx.fin (x:=(⟨r1.f9,r1.fJ,r1.fU,r1.fT,r1.fG,r1.fR,Ee⟩:Request)) (m.y Fb 7 z) (m.v Ag 8 z) (m.v Ah 9 z) (m.v Bk 10 z) (by simpa [fps] using (m.sl [7,8,9,10] z).nd))⟩
   refine Qbw (cs:=[I Az,I Ax,I As,I Ba,I Ar,I Ao,I Av]) (ps:=[(0,.tmp 165)]) Q3x m k z z z z z z z (by decide) z (by exact fC z fN) λHq Gf Gv a k m e Dc Gc=>?_;have In:=lo1 (Nat.le_trans s.size Gc);have Da:=Qai Dc ([(⟨Az,Ax,As,Ba,Ar,Ao,Av⟩:Item)]:List Item) z z z;refine ns s e λs=>dG 4 z (gl 1 [bF m 7 Aa z] k z λk=>wpList_nil ⟨s,?_⟩);refine dG 28 z (oE h λFs Em h=>Qap Em Q3x z m 10 Af (News.rd (m.q Da 0 z)) z z k z z z z z z z λGa Cc Id a k e m Be Cz=>?_);have Hg:∀ y∈Cc,y∈(Ae++([b3]))∨_≤y:=λy hy=>(Cz y hy).elim (λhy=>(λy hy=>Or.inl (List.mem_append_left _ hy)) y hy) (λh=>Or.inr (Nat.le_trans s.size h));have s:=s.trans e (λy hy=>Or.inl (List.mem_append_left _ hy));refine wpList_nil ⟨s,?_⟩;refine dT k 29 z z s (λw s=>Qn5 k z z) λa k=>dF k 30 Quq z s λa k=>dG 31 z (Qfi (cs':=(cR r1 v6 v9 Ga)) sizeOf35 m 7 Aa 9 k (Qid (Enc.ow_rd Be)) (Qee (Enc.ow_rd Be)) z z z z z z z z z λHe a k e m Ev=>?_);have s:=s.trans e (λy hy=>Or.inl (List.mem_append_right _ hy));refine wpList_nil ⟨s,?_⟩;refine dD ?_;refine (Qad ?_);refine uc 7 k z λk=>?_;cases h;exact Qbj k z (RV.tmp k z) ⟨([b3]++(F7++(Ad++Cc))),z,m.ext,(λb hb=>(m.sl [7,8,9,10] z).lo b (by simpa [fps] using hb)),(obx.fin (x:=(⟨r1.f9,r1.fJ,r1.fU,r1.fT,r1.fG,r1.fR,Fs⟩:Request)) (m.y Ev 7 z) (m.v Ag 8 z) (m.v Ah 9 z) (m.v Be 10 z) (by simpa [fps] using (m.sl [7,8,9,10] z).nd))⟩
 refine uc 8 k z λk=>?_;cases h;exact Qbj k z (RV.tmp k z) ⟨([b3]++(F7++(Ad++Ae))),z,m.ext,(λb hb=>(m.sl [6,7,8,9] z).lo b (by simpa [fps] using hb)),(obx.fin (x:=r1) (m.y Aa 6 z) (m.v Ag 7 z) (m.v Ah 8 z) (m.v Af 9 z) (by simpa [fps] using (m.sl [6,7,8,9] z).nd))⟩
theorem Qx4 (fu) {w0} (Aa Ah) {r} (h:Qls fu Aa Ah=some r):cS 40 [I Aa,I Ah] w0 (.bool (r)):=by
 refine eg func40 z ntmps40 z λk m=>uc 5 k z λk=>cg (λa w=>K 38 [] a∧St [] w0 w []∧Qg7 fu=some r) ?_ ?_
 · rintro a Bl ⟨k,m,h⟩;refine uc 6 k z λk=>fS h k m z z
 refine uc 13 k z λk=>cJ h k z (λh=>?_) λh=>?_
 · refine uc 2 k z λk=>cJ h k z (λh=>?_) λh=>?_
   · refine uc 12 k z λk=>fS h k m z z
   refine uc 6 k z λk=>cJ h k z (λh=>?_) λh=>?_
   · refine uc 5 k z λk=>bS h k 18 z (λ_ h k=>?_) λ_ h k=>?_
     · refine ul 9 k z λk=>fS h k m z z
     refine ul 9 k z λk=>fS h k m z z
   refine uc 6 k z λk=>cJ h k z (λh=>?_) λh=>?_
   · refine oE h λBq Ak h=>uc 3 k z λk=>cC k m call57 z (Qax fu _ _ _  Ak) λBr e a k m=>ul 6 k z λk=>fS h k m z z
   refine uc 6 k z λk=>cJ h k z (λh=>?_) λh=>?_
   · refine oE h λBo Aq h=>uc 3 k z λk=>cC k m call57 z (Qax fu _ _ _  Aq) λBk e a k m=>ul 6 k z λk=>fS h k m z z
   refine uc 6 k z λk=>cJ h k z (λh=>?_) λh=>?_
   · refine uc 5 k z λk=>bS h k 34 z (λ_ h k=>?_) λ_ h k=>?_
     · refine ul 9 k z λk=>fS h k m z z
     refine ul 9 k z λk=>fS h k m z z
   refine uc 3 k z λk=>?_;exact ⟨k.p z,m.sl [] z,h⟩
 refine uc 6 k z λk=>cJ h k z (λh=>?_) λh=>?_
 · refine uc 2 k z λk=>cJ h k z (λh=>?_) λh=>?_
   · refine uc 12 k z λk=>fS h k m z z
   refine uc 6 k z λk=>cJ h k z (λh=>?_) λh=>?_
   · refine uc 5 k z λk=>bS h k 18 z (λ_ h k=>?_) λ_ h k=>?_
     · refine ul 9 k z λk=>fS h k m z z
     refine ul 9 k z λk=>fS h k m z z
   refine uc 6 k z λk=>cJ h k z (λh=>?_) λh=>?_
   · refine oE h λBi Aj h=>uc 3 k z λk=>cC k m call57 z (Qax fu _ _ _  Aj) λBg e a k m=>ul 6 k z λk=>fS h k m z z
   refine uc 6 k z λk=>cJ h k z (λh=>?_) λh=>?_
   · refine oE h λBn Bc h=>uc 3 k z λk=>cC k m call57 z (Qax fu _ _ _  Bc) λBs e a k m=>ul 6 k z λk=>fS h k m z z
   refine uc 6 k z λk=>cJ h k z (λh=>?_) λh=>?_
   · refine uc 5 k z λk=>bS h k 34 z (λ_ h k=>?_) λ_ h k=>?_
     · refine ul 9 k z λk=>fS h k m z z
     refine ul 9 k z λk=>fS h k m z z
   refine uc 3 k z λk=>?_;exact ⟨k.p z,m.sl [] z,h⟩
 refine uc 5 k z λk=>cJ h k z (λh=>?_) λh=>?_
 · refine uc 12 k z λk=>fS h k m z z
 refine uc 6 k z λk=>cJ h k z (λh=>?_) λh=>?_
 · refine uc 5 k z λk=>bS h k 18 z (λ_ h k=>?_) λ_ h k=>?_
   · refine ul 9 k z λk=>fS h k m z z
   refine ul 9 k z λk=>fS h k m z z
 refine uc 6 k z λk=>cJ h k z (λh=>?_) λh=>?_
 · refine oE h λBp Ay h=>uc 3 k z λk=>cC k m call57 z (Qax fu _ _ _  Ay) λBh e a k m=>ul 6 k z λk=>fS h k m z z
 refine uc 6 k z λk=>cJ h k z (λh=>?_) λh=>?_
 · refine oE h λBm Au h=>uc 3 k z λk=>cC k m call57 z (Qax fu _ _ _  Au) λBj e a k m=>ul 6 k z λk=>fS h k m z z
 refine uc 6 k z λk=>cJ h k z (λh=>?_) λh=>?_
 · refine uc 5 k z λk=>bS h k 34 z (λ_ h k=>?_) λ_ h k=>?_
   · refine ul 9 k z λk=>fS h k m z z
   refine ul 9 k z λk=>fS h k m z z
 refine uc 3 k z λk=>?_;exact ⟨k.p z,m.sl [] z,h⟩
theorem Qul (fu) {w0} (hT:Te Tryz.prog w0) (Bl) {r} (h:Qio fu Bl=some r):Calls Tryz.prog 13 #[.string (Bl)] w0 λe w=>∃ (Bi:List Value) (G0:List Nat),e=.returned (.tuple #[.agg Bi.toArray,I r.2])∧Ext [] w0 w∧ow w G0 Bi r.1∧(∀ b∈G0,w0.heap.size≤b):=by
 refine eg (vs:=[_]) func13 z ntmps13 z λk m=>uc 2 k z λk=>Qaj (cs:=[I 0,I 0,I 0,I 0,I 0,I 0,.slice none 0 0,.slice none 0 0,I 0,.slice none 0 0]) m k zeroValue37 z z z z z λb2 w4 a k m e Am=>oE h λx5 By h=>ul 6 k z λk=>sL k m call38 z (Qs8 fu _ _  By) λw9 Cq Bn Ah k m=>gl 18 [lF (Enc.ow_rd Ah)] k z λk=>cJ h k z (λh=>?_) λh=>?_
 · refine uc 2 k z λk=>sv k z (Qag Q56 k (cs:=#[I 0,I 0,I 0,I 0,I 0,I 0,.slice none 0 0,.slice none 0 0,I 0,.slice none 0 0]) (ps:=[]) z z (by kernel_rfl)) λa k=>sT (cs':=[I 0,I 0,I 0,I 0,I 0,I 0,.slice none 0 0,.slice none 0 0,I 0,.slice none 0 0]) sizeOf37 m 1 Am 0 k z z λDg a k e m Bs=>ul 5 k z λk=>?_;cases h;exact Qdx k z (RV.cA k z Qyg (Bs.at (m.a 1 z) 0 10 z z z) z) (RV.tmp k z) ⟨_,_,z,m.ext,⟨_,[],_,[],_,[],z,z,(Qaw _),(Qaw _),(Qaw _),by simpa [fps] using (m.sl [] z).nd⟩,(Qa0 (by simp) (Qa0 (by simp) (by simp)))⟩
 refine uc 4 k z λk=>sv k z (Qag Q56 k (cs:=#[I 0,I 0,I 0,I 0,I 0,I 0,.slice none 0 0,.slice none 0 0,I 0,.slice none 0 0]) (ps:=[]) z z (by kernel_rfl)) λa k=>Qaj (cs:=[I 0,I 0,I 0,I 0,I 0,I 0,.slice none 0 0,.slice none 0 0,I 0,.slice none 0 0]) m k zeroValue37 z z z z z λBb Dk a k m e Cr=>sT (cs':=[I 0,I 0,I 0,I 0,I 0,I 0,.slice none 0 0,.slice none 0 0,I 0,.slice none 0 0]) sizeOf37 m 0 Cr 0 k z z λCn a k e m Cc=>oE h λBk Bx h=>ul 12 k z λk=>Q1y (Enc.ow_rd Ah) Bx k Jle z z z z z z λBp a k Bc=>gl 5 [lF Bc] k z λk=>lG (λn a w=>∃ Ag Ab Af Ai Ac Ae Ak Ax As Az Al Ap Au Be Ad Ao Aw Av Bf Bg Ar At,K 51 [(2,pt b2),(4,Cq),(5,I (w64 ((x5.length:Int) - 1))),(6,pt Bb),(7,I Ar),(22,Bp),(23,I (Bk.length:Int)),(24,I At)] a∧St [] w0 w [([b2],w4),(As,Az),(Au,Be),(Av,Bf),([Bb],Bg),(Bn,w9)]∧ow Az As [Ax] Ak∧ow Be Au [Ap] Al∧ow Bf Av [Aw] Ao∧bx Bg Bb [I Ag,I Ab,I Af,I Ai,I Ac,I Ae,Ax,Ap,I Ad,Aw] 37∧Qez fu x5 Bk n Ag Ab Af Ai Ac Ae Ak Al Ad Ao Ar At=some r) ?_ fu ?_
 · rintro Dj a De ⟨Ag,Ab,Af,Ai,Ac,Ae,Ak,Ax,As,Az,Al,Ap,Au,Be,Ad,Ao,Aw,Av,Bf,Bg,Ar,At,k,m,Bh,Bd,Ay,Bj,h⟩;refine uc 6 k z λk=>cJ h k z (λh=>?_) λh=>?_
   · refine oE h λDh Bo h=>gc 16 [iF Bc Bo,eF (Enc.rd_agr Bc (m.a 5 z)) Bo 0] k z λk=>?_;have Cm:=Enc.ow_agr Bh (m.a 1 z);have Ct:=Enc.ow_agr Bd (m.a 2 z);have Bw:=Enc.ow_agr Ay (m.a 3 z);have Bq:=Bj.agr (m.a 4 z) (by simp);have m:=(m.sl [4,1,2,3,0,5] z).joinq;have Cv:=obx.fin (x:=(⟨Ag,(⟨Ab,Af,Ai,Ac⟩:Pallet),Ae,Ak,Al,Ad,Ao⟩:Request)) Bq Cm Ct Bw (m.ndF 0 z);refine oE h λAa Cs h=>sC k call39 z (Q0p fu (((⟨Ag,(⟨Ab,Af,Ai,Ac⟩:Pallet),Ae,Ak,Al,Ad,Ao⟩:Request)):Request) _ Cv (m.te2 hT 0 z) Cs) λDb Aq hR=>?_;obtain ⟨Dc,rfl,e,Ca,Ba⟩:=hR;refine ⟨_,z,λa k=>?_⟩;have m:=m.mut 0 z e _ (λb hb=>⟨Ca b hb,Ba.lt b hb⟩) Ba.nd;obtain ⟨Cx,Ci,Bv,Cu,Ce,Cp,Cl,rfl,Cg,Bu,Cw,_⟩:=Ba;have m:=m.split4;refine oE h λCz Ch h=>ul 8 k z λk=>cC k m call40 z (Qx4 fu _ _  Ch) λDm e a k m=>ul 3 k z λk=>cJ h k z (λh=>?_) λh=>?_
     · refine uc 2 k z λk=>sv k z (Qag Q56 k (cs:=#[I 0,I 0,I 0,I 0,I 0,I 0,.slice none 0 0,.slice none 0 0,I 0,.slice none 0 0]) (ps:=[]) z z (by kernel_rfl)) λa k=>pN 1 k z λa k=>sT (cs':=[I 0,I 0,I 0,I 0,I 0,I 0,.slice none 0 0,.slice none 0 0,I 0,.slice none 0 0]) sizeOf37 m 4 Am 0 k z z λDd a k e m Cy=>ul 10 k z λk=>?_;cases h;exact Qdx k z (RV.cA k z Qyg (Cy.at (m.a 4 z) 0 10 z z z) z) (RV.tmp k z) ⟨_,_,z,m.ext,⟨_,[],_,[],_,[],z,z,(Qaw _),(Qaw _),(Qaw _),by simpa [fps] using (m.sl [] z).nd⟩,(Qa0 (by simp) (Qa0 (by simp) (by simp)))⟩
     refine uc 13 k z λk=>?_;exact ⟨_,_,_,_,_,_,_,_,_,_,_,_,_,_,_,_,_,_,_,_,_,_,k.p z,m.sl [4,1,2,3,0,5] z,Cg,Bu,Cw,Cl,h⟩
   refine uc 11 k z λk=>bS h k 41 z (λ_ h k=>?_) λ_ h k=>?_
   · refine ul 11 k z λk=>sv k z (Qag Q56 k (cs:=#[I 0,I 0,I 0,I 0,I 0,I 0,.slice none 0 0,.slice none 0 0,I 0,.slice none 0 0]) (ps:=[]) z z (by kernel_rfl)) λa k=>pN 1 k z λa k=>sT (cs':=[I 0,I 0,I 0,I 0,I 0,I 0,.slice none 0 0,.slice none 0 0,I 0,.slice none 0 0]) sizeOf37 m 0 Am 0 k z z λDl a k e m Cj=>ul 5 k z λk=>?_;cases h;exact Qdx k z (RV.cA k z Qyg (Cj.at (m.a 0 z) 0 10 z z z) z) (RV.tmp k z) ⟨_,_,z,m.ext,⟨_,[],_,[],_,[],z,z,(Qaw _),(Qaw _),(Qaw _),by simpa [fps] using (m.sl [] z).nd⟩,(Qa0 (by simp) (Qa0 (by simp) (by simp)))⟩
   refine oE h λDa Bm h=>gl 8 [iF (Enc.ow_rd Ah) Bm,eF (m.q Ah 5 z) Bm 0] k z λk=>cJ h k z (λh=>?_) λh=>?_
   · refine uc 2 k z λk=>sv k z (Qag Q56 k (cs:=#[I 0,I 0,I 0,I 0,I 0,I 0,.slice none 0 0,.slice none 0 0,I 0,.slice none 0 0]) (ps:=[]) z z (by kernel_rfl)) λa k=>pN 1 k z λa k=>sT (cs':=[I 0,I 0,I 0,I 0,I 0,I 0,.slice none 0 0,.slice none 0 0,I 0,.slice none 0 0]) sizeOf37 m 0 Am 0 k z z λDf a k e m Br=>ul 5 k z λk=>?_;cases h;exact Qdx k z (RV.cA k z Qyg (Br.at (m.a 0 z) 0 10 z z z) z) (RV.tmp k z) ⟨_,_,z,m.ext,⟨_,[],_,[],_,[],z,z,(Qaw _),(Qaw _),(Qaw _),by simpa [fps] using (m.sl [] z).nd⟩,(Qa0 (by simp) (Qa0 (by simp) (by simp)))⟩
   refine gc 5 [bA m 4 Bj z] k z λk=>sT (cs':=[I Ag,I Ab,I Af,I Ai,I Ac,I Ae,Ax,Ap,I Ad,Aw]) sizeOf37 m 0 Am 0 k z (Qa9 z (Qa9 z (Qa9 z (Qa9 z (Qa9 z (Qa9 z (Qa9 (Qee (Enc.ow_rd Bh)) (Qa9 (Qee (Enc.ow_rd Bd)) (Qa9 z (Qa9 (Qee (Enc.ow_rd Ay)) Qqb)))))))))) λDi a k e m Co=>ul 4 k z λk=>?_;cases h;exact Qdx k z (RV.cA k z Qyg (Co.at (m.a 0 z) 0 10 z z z) z) (RV.tmp k z) ⟨_,_,z,m.ext,⟨_,As,_,Au,_,Av,z,z,(m.v Bh 1 z),(m.v Bd 2 z),(m.v Ay 3 z),by simpa [fps] using (m.sl [1,2,3] z).nd⟩,(Qa0 (m.fresh 1 z) (Qa0 (m.fresh 2 z) (m.fresh 3 z)))⟩
 exact ⟨_,_,_,_,_,_,_,_,_,_,_,_,_,_,_,_,_,_,_,_,_,_,k.p z,(((m.addNil (u:=w0)).addNil (u:=w0)).addNil (u:=w0)).sel [5,0,1,2,3,4] z (by decide),(Qaw _),(Qaw _),(Qaw _),Cc,h⟩
theorem Qww (fu) {w0} (t1 x2) {b3} (Aa:bx w0 b3 [I x2] 3) {r} (h:Qp7 fu t1 x2=some r):cS 190 [.agg (Flat.e (t1)).toArray,pt b3] w0 (.bool (r)):=by
 refine eg func190 z ntmps190 z λk m=>uc 2 k z λk=>Qbd (cs:=[I t1.f8,I t1.fW,I t1.fH,I t1.fD,I t1.fK,I t1.fQ,I t1.fL]) m k z z z z z z λb5 w7 a k m e Ab=>gl 13 [bF m 0 Ab z,pF (r:=[]) (Aa.at (m.a00 Aa.lt1) 0 1 z z z)] k z λk=>fS h k m z z
theorem Qfx (fu) {w0} (Ab f5) {v2 F3} (Aa:rd w0 F3 [v2] Ab) {v6} (Aj:Qvo Tryz.prog w0 v6 f5) {r} (h:Qbm fu Ab f5=some r):cS 156 [v2,v6] w0 (I r):=by
 refine eg func156 z ntmps156 z λk m=>?_;obtain ⟨Ak,Ae,rfl,Ag,Ah⟩:=Aj;refine gc 14 [lF Aa] k z λk=>lG (λn a w=>∃ Ac,K 19 [(0,v2),(1,(.func (.func Ak) #[] Ae.toArray)),(7,I (Ab.length:Int)),(8,I Ac)] a∧St [] w0 w []∧Qa4 fu Ab f5 n Ac=some r) ?_ fu ?_
 · rintro Aq a Ar ⟨Ac,k,m,h⟩;refine uc 6 k z λk=>cJ h k z (λh=>?_) λh=>?_
   · refine o2 h λAm Ad As Af h=>gc 17 [iF Aa Ad,eA (m.r Aa) Ad] k z λk=>Qto k Ag z z z z z z (Ah _ _ _ _ m.ext z Af) λAo Ap hR=>?_;obtain ⟨rfl,e⟩:=hR;refine ⟨_,z,λa k=>?_⟩;have m:=m.step e;refine ul 2 k z λk=>cJ h k z (λh=>?_) λh=>?_
     · refine uc 12 k z λk=>fS h k m z z
     refine uc 8 k z λk=>?_;exact ⟨_,k.p z,m.sl [] z,h⟩
   refine uc 11 k z λk=>fS h k m z z
 exact ⟨_,k.p z,m.sl [] z,h⟩
theorem Qsr (fu) {w0} (r1 Ac) {Ad F3} (Ah:rd w0 F3 Ad r1) {r} (h:Qh4 fu r1 Ac=some r):cS 113 [.agg Ad.toArray,I Ac] w0 (.tuple #[.agg (Flat.e r.1).toArray,.bool (r.2)]):=by
 refine eg func113 z ntmps113 z λk m=>?_;obtain ⟨v6,F7,v8,F9,Am,As,rfl,rfl,Ba,Ab,Aw⟩:=Ah;refine uc 2 k z λk=>Qbd (cs:=(cR r1 v6 v8 Am)) m k z z z z z z λAz Ax a k m e Ag=>Qbd (cs:=[I Ac]) m k z z z z z z λAo Bc a k m e Al=>Qaj (cs:=[I 0,I 0,I 0,I 0,I 0,I 0,I 0]) m k zeroValue53 z z z z z λBb Av a k m e Ae=>oE h λAu Ai h=>gl 8 [bF m 2 Ag z] k z λk=>cC k m call156 z (Qfx fu _ _ (m.r Ab) ⟨190,[pt Ao],z,call190,λw Bd Ay r e Aq hx=>by subst Aq; have m:=m.step e; exact Qww fu _ _ (Al.agr (m.a 1 rfl) (by simp)) hx⟩ Ai) λAt e a k m=>pN 1 k rfl λa k=>ul 5 k z λk=>pN 2 k rfl λa k=>ul 2 k z λk=>cI h k rfl (λAk h=>?_) λAk h=>?_
 · refine uc 2 k z λk=>sv k z (Qag Q49 k (cs:=#[I 0,I 0,I 0,I 0,I 0,I 0,I 0]) (ps:=[]) z z (by kernel_rfl)) λa k=>sT (cs':=[I 0,I 0,I 0,I 0,I 0,I 0,I 0]) sizeOf53 m 0 Ae 0 k z z λAr a k e m Ap=>ul 5 k z λk=>?_;cases h;exact Qdx k z (RV.cA k z Q8i (Ap.at (m.a 0 z) 0 7 z z z) z) (RV.tmp k z) ⟨z,m.ext⟩
 refine oE h λAa Af h=>gc 9 [bF m 2 Ag z,iF Ab Af,eA (m.r Ab) Af] k z λk=>sT (cs':=[I Aa.f8,I Aa.fW,I Aa.fH,I Aa.fD,I Aa.fK,I Aa.fQ,I Aa.fL]) sizeOf53 m 0 Ae 0 k z z λBe a k e m Aj=>ul 4 k z λk=>?_;cases h;exact Qdx k z (RV.cA k z Q8i (Aj.at (m.a 0 z) 0 7 z z z) z) (RV.tmp k z) ⟨z,m.ext⟩
theorem Qs2 (fu) {w0} (r1) {Ac F3} (Ai:rd w0 F3 Ac r1) {r} (h:Qh7 fu r1=some r):cS 75 [.agg Ac.toArray] w0 (.tuple #[.agg (Flat.e r.1).toArray,.bool (r.2)]):=by
 refine eg func75 z ntmps75 z λk m=>?_;obtain ⟨v5,F6,v7,F8,v9,Ap,rfl,rfl,Af,Ab,Ad⟩:=Ai;refine uc 2 k z λk=>Qbd (cs:=(cR r1 v5 v7 v9)) m k z z z z z z λAl Ar a k m e Ae=>Qaj (cs:=[I 0,I 0,I 0,I 0,I 0,I 0,I 0]) m k zeroValue53 z z z z z λAk Am a k m e Aj=>oE h λAa Ag h=>gl 8 [bA m 1 Ae z,bF m 1 Ae z] k z λk=>cC k m call113 z (Qsr fu _ _ (Qac (m.r Af) (m.r Ab) (m.r Ad)) Ag) λAq e a k m=>pN 2 k z λa k=>sT (cs':=[I Aa.1.f8,I Aa.1.fW,I Aa.1.fH,I Aa.1.fD,I Aa.1.fK,I Aa.1.fQ,I Aa.1.fL]) sizeOf53 m 0 Aj 0 k z z λAo a k e m Ah=>ul 4 k z λk=>?_;cases h;exact Qdx k z (RV.cA k z Q8i (Ah.at (m.a 0 z) 0 7 z z z) z) (RV.tmp k z) ⟨z,m.ext⟩
theorem Qgh (fu) {w0} (n1) {r} (h:Qde fu n1=some r):cS 216 [I n1] w0 (.bool (r)):=by
 refine eg func216 z ntmps216 z λk m=>oE h λx2 Aa h=>uc 8 k z λk=>cC k m call57 z (Qax fu _ _ _  Aa) λw5 e a k m=>ul 4 k z λk=>fS h k m z z
theorem Qn9 (fu) {w0} (x1) {r} (h:Qek fu x1=some r):cS 145 [.agg (Flat.e (x1)).toArray] w0 (.bool (r)):=by
 refine eg func145 z ntmps145 z λk m=>uc 2 k z λk=>Qbd (cs:=[I x1.fW,I x1.fD,I x1.fH,I x1.fQ]) m k z z z z z z λb2 w4 a k m e Ad=>oE h λx5 Ae h=>gl 7 [bF m 0 Ad z] k z λk=>cC k m call216 z (Qgh fu _  Ae) λw9 e a k m=>pN 1 k z λa k=>bS h k 6 z (λ_ h k=>?_) λ_ h k=>?_
 · refine oE h λAj Af h=>gl 2 [bF m 0 Ad z] k z λk=>cC k m call216 z (Qgh fu _  Af) λAl e a k m=>pN 2 k z λa k=>bS h k 11 z (λ_ h k=>?_) λ_ h k=>?_
   · refine oE h λAg Ah h=>gl 2 [bF m 0 Ad z] k z λk=>cC k m call216 z (Qgh fu _  Ah) λAm e a k m=>pN 2 k z λa k=>bS h k 16 z (λ_ h k=>?_) λ_ h k=>?_
     · refine oE h λAk Ai h=>gl 2 [bF m 0 Ad z] k z λk=>cC k m call57 z (Qax fu _ _ _  Ai) λAo e a k m=>ul 5 k z λk=>fS h k m z z
     refine ul 8 k z λk=>fS h k m z z
   refine ul 13 k z λk=>fS h k m z z
 refine ul 18 k z λk=>fS h k m z z
theorem Qj2 (fu) {w0} (Ab f5) {v2 F3} (Aa:rd w0 F3 [v2] Ab) {v6} (Aj:Qvo Tryz.prog w0 v6 f5) {r} (h:Qb9 fu Ab f5=some r):cS 217 [v2,v6] w0 (I r):=by
 refine eg func217 z ntmps217 z λk m=>?_;obtain ⟨Ak,Ae,rfl,Ag,Ah⟩:=Aj;refine gc 14 [lF Aa] k z λk=>lG (λn a w=>∃ Ac,K 19 [(0,v2),(1,(.func (.func Ak) #[] Ae.toArray)),(7,I (Ab.length:Int)),(8,I Ac)] a∧St [] w0 w []∧Qa1 fu Ab f5 n Ac=some r) ?_ fu ?_
 · rintro Aq a Ar ⟨Ac,k,m,h⟩;refine uc 6 k z λk=>cJ h k z (λh=>?_) λh=>?_
   · refine o2 h λAm Ad As Af h=>gc 17 [iF Aa Ad,eA (m.r Aa) Ad] k z λk=>Qto k Ag z z z z z z (Ah _ _ _ _ m.ext z Af) λAo Ap hR=>?_;obtain ⟨rfl,e⟩:=hR;refine ⟨_,z,λa k=>?_⟩;have m:=m.step e;refine ul 2 k z λk=>cJ h k z (λh=>?_) λh=>?_
     · refine uc 12 k z λk=>fS h k m z z
     refine uc 8 k z λk=>?_;exact ⟨_,k.p z,m.sl [] z,h⟩
   refine uc 11 k z λk=>fS h k m z z
 exact ⟨_,k.p z,m.sl [] z,h⟩
theorem Qet (fu) {w0} (Ab f5) {v2 F3} (Aa:rd w0 F3 [v2] Ab) {v6} (Ag:Qvo Tryz.prog w0 v6 f5) {r} (h:Qa5 fu Ab f5=some r):cS 146 [v2,v6] w0 (.bool (r)):=by
 refine eg func146 z ntmps146 z λk m=>?_;obtain ⟨Ak,Ai,rfl,Ad,Ae⟩:=Ag;refine oE h λAl Af h=>uc 9 k z λk=>cC k m call217 z (Qj2 fu _ _ (m.r Aa) ⟨_,_,z,Ad,λw Ah Ac r e=>Ae w Ah Ac r (m.ext.trans e (by simp))⟩ Af) λAj e a k m=>ul 5 k z λk=>fS h k m z z
theorem Qxc (fu) {w0} (p1) {r} (h:Qj8 fu p1=some r):cS 147 [.agg (Flat.e (p1)).toArray] w0 (.bool (r)):=by
 refine eg func147 z ntmps147 z λk m=>uc 2 k z λk=>Qbd (cs:=[I p1.fA,I p1.fB]) m k z z z z z z λb2 w4 a k m e Ab=>oE h λx5 Ac h=>gl 7 [bF m 0 Ab z] k z λk=>cC k m call57 z (Qax fu _ _ _  Ac) λw9 e a k m=>pN 2 k z λa k=>bS h k 7 z (λ_ h k=>?_) λ_ h k=>?_
 · refine ul 9 k z λk=>fS h k m z z
 refine oE h λAf Ad h=>gl 2 [bF m 0 Ab z] k z λk=>cC k m call57 z (Qax fu _ _ _  Ad) λAe e a k m=>ul 6 k z λk=>fS h k m z z
theorem Qcu (fu) {w0} (Ab f5) {v2 F3} (Aa:rd w0 F3 [v2] Ab) {v6} (Ag:Qvo Tryz.prog w0 v6 f5) {r} (h:Qav fu Ab f5=some r):cS 82 [v2,v6] w0 (.bool (r)):=by
 refine eg func82 z ntmps82 z λk m=>?_;obtain ⟨Ak,Ai,rfl,Ad,Ae⟩:=Ag;refine oE h λAl Af h=>uc 9 k z λk=>cC k m call156 z (Qfx fu _ _ (m.r Aa) ⟨_,_,z,Ad,λw Ah Ac r e=>Ae w Ah Ac r (m.ext.trans e (by simp))⟩ Af) λAj e a k m=>ul 5 k z λk=>fS h k m z z
theorem Q3s (fu) {w0} (x1) {r} (h:Qrv fu x1=some r):cS 149 [.agg (Flat.e (x1)).toArray] w0 (.bool (r)):=by
 refine eg func149 z ntmps149 z λk m=>uc 2 k z λk=>Qbd (cs:=[I x1.f8,I x1.fW,I x1.fH,I x1.fD,I x1.fK,I x1.fQ,I x1.fL]) m k z z z z z z λb2 w4 a k m e Aa=>oE h λx5 Ao h=>gl 7 [bF m 0 Aa z] k z λk=>cC k m call57 z (Qax fu _ _ _  Ao) λw9 e a k m=>pN 1 k z λa k=>bS h k 6 z (λ_ h k=>?_) λ_ h k=>?_
 · refine oE h λAl Aj h=>gl 2 [bF m 0 Aa z] k z λk=>cC k m call216 z (Qgh fu _  Aj) λAx e a k m=>pN 2 k z λa k=>bS h k 11 z (λ_ h k=>?_) λ_ h k=>?_
   · refine oE h λAk As h=>gl 2 [bF m 0 Aa z] k z λk=>cC k m call216 z (Qgh fu _  As) λAz e a k m=>pN 2 k z λa k=>bS h k 16 z (λ_ h k=>?_) λ_ h k=>?_
     · refine oE h λAr Ap h=>gl 2 [bF m 0 Aa z] k z λk=>cC k m call216 z (Qgh fu _  Ap) λAu e a k m=>pN 2 k z λa k=>bS h k 21 z (λ_ h k=>?_) λ_ h k=>?_
       · refine oE h λAm At h=>gl 2 [bF m 0 Aa z] k z λk=>cC k m call57 z (Qax fu _ _ _  At) λAy e a k m=>pN 2 k z λa k=>bS h k 26 z (λ_ h k=>?_) λ_ h k=>?_
         · refine oE h λAi Ah h=>gl 2 [bF m 0 Aa z] k z λk=>cC k m call57 z (Qax fu _ _ _  Ah) λBa e a k m=>pN 2 k z λa k=>bS h k 31 z (λ_ h k=>?_) λ_ h k=>?_
           · refine oE h λAv Aq h=>gl 2 [bF m 0 Aa z] k z λk=>cC k m call57 z (Qax fu _ _ _  Aq) λAw e a k m=>ul 5 k z λk=>fS h k m z z
           refine ul 8 k z λk=>fS h k m z z
         refine ul 13 k z λk=>fS h k m z z
       refine ul 18 k z λk=>fS h k m z z
     refine ul 23 k z λk=>fS h k m z z
   refine ul 28 k z λk=>fS h k m z z
 refine ul 33 k z λk=>fS h k m z z
theorem Qwn (fu) {w0} (t1) {r} (h:Qki fu t1=some r):cS 148 [.agg (Flat.e (t1)).toArray] w0 (.bool (r)):=by
 refine eg func148 z ntmps148 z λk m=>uc 2 k z λk=>Qbd (cs:=[I t1.f8,I t1.fW,I t1.fH,I t1.fD,I t1.fK,I t1.fQ,I t1.fL]) m k z z z z z z λb2 w4 a k m e Ab=>oE h λx5 Aa h=>gl 6 [bA m 0 Ab z] k z λk=>cC k m call149 z (Q3s fu (t1:Typ)  Aa) λw9 e a k m=>ul 5 k z λk=>fS h k m z z
theorem Q23 (fu) {w0} (x1) {r} (h:Qr7 fu x1=some r):cS 150 [.agg (Flat.e (x1)).toArray] w0 (.bool (r)):=by
 refine eg func150 z ntmps150 z λk m=>uc 2 k z λk=>Qbd (cs:=[I x1.f8,I x1.fW,I x1.fH,I x1.fD,I x1.fQ,I x1.fM,I x1.fF]) m k z z z z z z λb2 w4 a k m e Aa=>oE h λx5 Ao h=>gl 7 [bF m 0 Aa z] k z λk=>cC k m call57 z (Qax fu _ _ _  Ao) λw9 e a k m=>pN 1 k z λa k=>bS h k 6 z (λ_ h k=>?_) λ_ h k=>?_
 · refine oE h λAl Aj h=>gl 2 [bF m 0 Aa z] k z λk=>cC k m call216 z (Qgh fu _  Aj) λAx e a k m=>pN 2 k z λa k=>bS h k 11 z (λ_ h k=>?_) λ_ h k=>?_
   · refine oE h λAk As h=>gl 2 [bF m 0 Aa z] k z λk=>cC k m call216 z (Qgh fu _  As) λAz e a k m=>pN 2 k z λa k=>bS h k 16 z (λ_ h k=>?_) λ_ h k=>?_
     · refine oE h λAr Ap h=>gl 2 [bF m 0 Aa z] k z λk=>cC k m call216 z (Qgh fu _  Ap) λAu e a k m=>pN 2 k z λa k=>bS h k 21 z (λ_ h k=>?_) λ_ h k=>?_
       · refine oE h λAm At h=>gl 2 [bF m 0 Aa z] k z λk=>cC k m call57 z (Qax fu _ _ _  At) λAy e a k m=>pN 2 k z λa k=>bS h k 26 z (λ_ h k=>?_) λ_ h k=>?_
         · refine oE h λAi Ah h=>gl 2 [bF m 0 Aa z] k z λk=>cC k m call57 z (Qax fu _ _ _  Ah) λBa e a k m=>pN 2 k z λa k=>bS h k 31 z (λ_ h k=>?_) λ_ h k=>?_
           · refine oE h λAv Aq h=>gl 2 [bF m 0 Aa z] k z λk=>cC k m call57 z (Qax fu _ _ _  Aq) λAw e a k m=>ul 5 k z λk=>fS h k m z z
           refine ul 8 k z λk=>fS h k m z z
         refine ul 13 k z λk=>fS h k m z z
       refine ul 18 k z λk=>fS h k m z z
     refine ul 23 k z λk=>fS h k m z z
   refine ul 28 k z λk=>fS h k m z z
 refine ul 33 k z λk=>fS h k m z z
theorem Qyv (fu) {w0} (r1) {Aq F3} (At:rd w0 F3 Aq r1) {r} (h:Qov fu r1=some r):cS 76 [.agg Aq.toArray] w0 (.bool (r)):=by
 refine eg func76 z ntmps76 z λk m=>?_;obtain ⟨v5,F6,v7,F8,v9,Cc,rfl,rfl,Am,Ao,Ai⟩:=At;refine uc 2 k z λk=>Qbd (cs:=(cR r1 v5 v7 v9)) m k z z z z z z λAj As a k m e Aa=>ul 3 k z λk=>cg (λa w=>K 70 [(1,pt Aj)] a∧St [] w0 w [([Aj],As)]∧Qny fu r1=some r) ?_ ?_
 · rintro a Bv ⟨k,m,h⟩;refine oE h λCm Bi h=>gc 5 [bF m 0 Aa z] k z λk=>cC k m call146 z (Qet fu _ _ (m.r Am) ⟨147,[],z,call147,λw Cl Bt r e Ax hx=>by subst Ax; have m:=m.step e; exact Qxc fu _  hx⟩ Bi) λBw e a k m=>ul 2 k z λk=>cI h k rfl (λBk h=>?_) λBk h=>?_
   · refine uc 7 k z λk=>fS h k m z z
   refine uc 2 k z λk=>cg (λa w=>K 70 [(1,pt Aj)] a∧St [] w0 w [([Aj],As)]∧Qoh fu r1=some r) ?_ ?_
   · rintro a By ⟨k,m,h⟩;refine gc 15 [bF m 0 Aa z,lF Ai] k z λk=>lG (λn a w=>∃ Ak Al,K 70 [(3,I Ak),(54,v9),(55,I (r1.fV.length:Int)),(56,I Al)] a∧St [] w0 w []∧Qef fu r1 n Ak Al=some r) ?_ fu ?_
     · rintro Cg a Bq ⟨Ak,Al,k,m,h⟩;refine uc 6 k z λk=>cJ h k z (λh=>?_) λh=>?_
       · refine oE h λAb Ar h=>gc 8 [iF Ai Ar,eA (m.r Ai) Ar] k z λk=>Qaj (cs:=[I 0,I 0,I 0,I 0,I 0,I 0,I 0]) m k zeroValue51 z z z z z λBs Bz a k m e Bc=>sT (cs':=[I Ab.f8,I Ab.fW,I Ab.fH,I Ab.fD,I Ab.fQ,I Ab.fM,I Ab.fF]) sizeOf51 m 0 Bc 0 k z z λBx a k e m Ap=>oE h λCd Ay h=>gl 6 [bA m 0 Ap z] k z λk=>cC k m call150 z (Q23 fu (Ab:Item)  Ay) λBr e a k m=>ul 3 k z λk=>cJ h k z (λh=>?_) λh=>?_
         · refine uc 12 k z λk=>fS h k m z z
         refine gc 16 [bF m 0 Ap z] k z λk=>?_;exact ⟨_,_,k.p z,m.sl [] z,h⟩
       refine uc 13 k z λk=>fS h k m z z
     exact ⟨_,_,k.p z,m.sl [] z,h⟩
   refine oE h λAw Bl h=>gc 5 [bF m 0 Aa z,lF Ao] k z λk=>cC k m call57 z (Qax fu _ _ _  Bl) λCi e a k m=>pN 2 k z λa k=>bS h k 36 z (λ_ h k=>?_) λ_ h k=>?_
   · refine ul 26 k z λk=>fS h k m z z
   refine oE h λBf Bh h=>gl 2 [bF m 0 Aa z] k z λk=>cC k m call82 z (Qcu fu _ _ (m.r Ao) ⟨148,[],z,call148,λw Ch Cj r e Bj hx=>by subst Bj; have m:=m.step e; exact Qwn fu _  hx⟩ Bh) λCa e a k m=>pN 2 k rfl λa k=>bS h k 41 z (λ_ h k=>?_) λ_ h k=>?_
   · refine ul 21 k z λk=>fS h k m z z
   refine oE h λAz Bm h=>gl 2 [bF m 0 Aa z] k z λk=>cC k m call57 z (Qax fu _ _ _  Bm) λCk e a k m=>pN 3 k z λa k=>bS h k 47 z (λ_ h k=>?_) λ_ h k=>?_
   · refine ul 15 k z λk=>fS h k m z z
   refine gl 7 [bF m 0 Aa z,lF Ai] k z λk=>cJ h k z (λh=>?_) λh=>?_
   · refine uc 7 k z λk=>fS h k m z z
   refine uc 2 k z λk=>?_;exact ⟨k.p z,m.sl [0] z,h⟩
 refine oE h λBn Bb h=>gc 4 [bF m 0 Aa z] k z λk=>cC k m call57 z (Qax fu _ _ _  Bb) λCe e a k m=>pN 2 k z λa k=>bS h k 10 z (λ_ h k=>?_) λ_ h k=>?_
 · refine ul 27 k z λk=>fS h k m z z
 refine oE h λAv Be h=>gl 2 [bA m 0 Aa z] k z λk=>cC k m call145 z (Qn9 fu (r1.fJ:Pallet)  Be) λCb e a k m=>pN 3 k z λa k=>bS h k 16 z (λ_ h k=>?_) λ_ h k=>?_
 · refine ul 21 k z λk=>fS h k m z z
 refine oE h λBd Bo h=>gl 2 [bF m 0 Aa z] k z λk=>cC k m call57 z (Qax fu _ _ _  Bo) λBu e a k m=>pN 3 k z λa k=>bS h k 22 z (λ_ h k=>?_) λ_ h k=>?_
 · refine ul 15 k z λk=>fS h k m z z
 refine gl 7 [bF m 0 Aa z,lF Am] k z λk=>cJ h k z (λh=>?_) λh=>?_
 · refine uc 7 k z λk=>fS h k m z z
 refine uc 2 k z λk=>?_;exact ⟨k.p z,m.sl [0] z,h⟩
theorem Qx0 (fu) {w0} (q1 x2) {b3} (Aa:bx w0 b3 [I x2.f8,I x2.fW,I x2.fH,I x2.fD,I x2.fK,I x2.fQ,I x2.fL] 53) {r} (h:Qrm fu q1 x2=some r):cS 151 [.agg (Flat.e (q1)).toArray,pt b3] w0 (.bool (r)):=by
 refine eg func151 z ntmps151 z λk m=>uc 2 k z λk=>Qbd (cs:=[I q1.f8,I q1.fW,I q1.fH,I q1.fD,I q1.fK,I q1.fQ,I q1.fL]) m k z z z z z z λb5 w7 a k m e Ab=>gl 14 [bF m 0 Ab z,pF (r:=[]) (Aa.at (m.a00 Aa.lt1) 0 1 z z z)] k z λk=>fS h k m z z
theorem Qx1 (fu) {w0} (q1 x2) {b3} (Aa:bx w0 b3 [I x2.f8,I x2.fW,I x2.fH,I x2.fD,I x2.fQ,I x2.fM,I x2.fF] 51) {r} (h:Qrj fu q1 x2=some r):cS 152 [.agg (Flat.e (q1)).toArray,pt b3] w0 (.bool (r)):=by
 refine eg func152 z ntmps152 z λk m=>uc 2 k z λk=>Qbd (cs:=[I q1.f8,I q1.fW,I q1.fH,I q1.fD,I q1.fQ,I q1.fM,I q1.fF]) m k z z z z z z λb5 w7 a k m e Ab=>gl 14 [bF m 0 Ab z,pF (r:=[]) (Aa.at (m.a00 Aa.lt1) 0 1 z z z)] k z λk=>fS h k m z z
theorem Qjy (fu) {w0} (Ab f5) {v2 F3} (Aa:rd w0 F3 [v2] Ab) {v6} (Aj:Qvo Tryz.prog w0 v6 f5) {r} (h:Qb8 fu Ab f5=some r):cS 155 [v2,v6] w0 (I r):=by
 refine eg func155 z ntmps155 z λk m=>?_;obtain ⟨Ak,Ae,rfl,Ag,Ah⟩:=Aj;refine gc 14 [lF Aa] k z λk=>lG (λn a w=>∃ Ac,K 19 [(0,v2),(1,(.func (.func Ak) #[] Ae.toArray)),(7,I (Ab.length:Int)),(8,I Ac)] a∧St [] w0 w []∧Qa2 fu Ab f5 n Ac=some r) ?_ fu ?_
 · rintro Aq a Ar ⟨Ac,k,m,h⟩;refine uc 6 k z λk=>cJ h k z (λh=>?_) λh=>?_
   · refine o2 h λAm Ad As Af h=>gc 17 [iF Aa Ad,eA (m.r Aa) Ad] k z λk=>Qto k Ag z z z z z z (Ah _ _ _ _ m.ext z Af) λAo Ap hR=>?_;obtain ⟨rfl,e⟩:=hR;refine ⟨_,z,λa k=>?_⟩;have m:=m.step e;refine ul 2 k z λk=>cJ h k z (λh=>?_) λh=>?_
     · refine uc 12 k z λk=>fS h k m z z
     refine uc 8 k z λk=>?_;exact ⟨_,k.p z,m.sl [] z,h⟩
   refine uc 11 k z λk=>fS h k m z z
 exact ⟨_,k.p z,m.sl [] z,h⟩
theorem Qcv (fu) {w0} (Ab f5) {v2 F3} (Aa:rd w0 F3 [v2] Ab) {v6} (Ag:Qvo Tryz.prog w0 v6 f5) {r} (h:Qa3 fu Ab f5=some r):cS 79 [v2,v6] w0 (.bool (r)):=by
 refine eg func79 z ntmps79 z λk m=>?_;obtain ⟨Ak,Ai,rfl,Ad,Ae⟩:=Ag;refine oE h λAl Af h=>uc 9 k z λk=>cC k m call155 z (Qjy fu _ _ (m.r Aa) ⟨_,_,z,Ad,λw Ah Ac r e=>Ae w Ah Ac r (m.ext.trans e (by simp))⟩ Af) λAj e a k m=>ul 5 k z λk=>fS h k m z z
theorem Qxx (fu) {w0} (p1 x2) {v5 F6 v8 F9 Ac Ae b3} (Ab:bx w0 b3 (cR x2 v5 v8 Ac) 37) (Ai:rd w0 F6 [v5] x2.fT) (Ah:rd w0 F9 [v8] x2.fG) (Af:rd w0 Ae [Ac] x2.fV) {r} (h:Qlr fu p1 x2=some r):cS 153 [.agg (Flat.e (p1)).toArray,pt b3] w0 (.bool (r)):=by
 refine eg func153 z ntmps153 z λk m=>uc 2 k z λk=>Qbd (cs:=[I p1.fA,I p1.fB]) m k z z z z z z λAg Aj a k m e Ad=>gl 11 [bF m 0 Ad z,pF (r:=[]) (Ab.at (m.a00 Ab.lt1) 5 1 z z z)] k z λk=>bS h k 9 z (λ_ h k=>?_) λ_ h k=>?_
 · refine ul 10 k z λk=>fS h k m z z
 refine gl 10 [bF m 0 Ad z,pF (r:=[]) (Ab.at (m.a00 Ab.lt1) 5 1 z z z)] k z λk=>fS h k m z z
theorem Q0n (fu) {w0} (r1) {Ao F3} (Au:rd w0 F3 Ao r1) {r} (h:Qqa fu r1=some r):cS 77 [.agg Ao.toArray] w0 (.bool (r)):=by
 refine eg func77 z ntmps77 z λk m=>?_;obtain ⟨v5,F6,v7,F8,v9,Cm,rfl,rfl,Ah,Aa,Ab⟩:=Au;refine uc 2 k z λk=>Qbd (cs:=(cR r1 v5 v7 v9)) m k z z z z z z λAf Am a k m e Ad=>gl 13 [bF m 0 Ad z,lF Aa] k z λk=>lG (λn a w=>∃ Al,K 59 [(1,pt Af),(10,v7),(11,I (r1.fG.length:Int)),(12,I Al)] a∧St [] w0 w [([Af],Am)]∧Qe1 fu r1 n Al=some r) ?_ fu ?_
 · rintro Bp a Cj ⟨Al,k,m,h⟩;refine uc 6 k z λk=>cJ h k z (λh=>?_) λh=>?_
   · refine oE h λAg As h=>gc 9 [iF Aa As,eA (m.r Aa) As] k z λk=>Qaj (cs:=[I 0,I 0,I 0,I 0,I 0,I 0,I 0]) m k zeroValue53 z z z z z λBi Ci a k m e Bd=>pN 1 k z λa k=>sT (cs':=[I Ag.f8,I Ag.fW,I Ag.fH,I Ag.fD,I Ag.fK,I Ag.fQ,I Ag.fL]) sizeOf53 m 0 Bd 0 k z z λCt a k e m Bf=>oE h λBw Av h=>gl 7 [bF m 1 Ad z] k z λk=>Q1y Aa Av k Jkn z z z z z z λCk a k Ar=>pN 1 k z λa k=>oE h λCa Bc h=>cC k m call82 z (Qcu fu _ _ (m.r Ar) ⟨151,[pt Bi],z,call151,λw Cd Cr r e Bl hx=>by subst Bl; have m:=m.step e; exact Qx0 fu _ _ (Bf.agr (m.a 0 rfl) (by simp)) hx⟩ Bc) λCp e a k m=>ul 2 k z λk=>cI h k rfl (λAz h=>?_) λAz h=>?_
     · refine uc 11 k z λk=>fS h k m z z
     refine uc 8 k z λk=>?_;exact ⟨_,k.p z,m.sl [1] z,h⟩
   refine gc 15 [bF m 0 Ad z,lF Ab] k z λk=>lG (λn a w=>∃ Ai,K 59 [(1,pt Af),(25,v9),(26,I (r1.fV.length:Int)),(27,I Ai)] a∧St [] w0 w [([Af],Am)]∧Qdb fu r1 n Ai=some r) ?_ fu ?_
   · rintro Bh a Bu ⟨Ai,k,m,h⟩;refine uc 6 k z λk=>cJ h k z (λh=>?_) λh=>?_
     · refine uc 2 k z λk=>cg (λa w=>K 59 [(1,pt Af),(25,v9),(26,I (r1.fV.length:Int)),(27,I Ai)] a∧St [] w0 w [([Af],Am)]∧Qpo fu (Qdb fu r1 Bh) Ai=some r) ?_ ?_
       · rintro a Co ⟨k,m,h⟩;refine uc 5 k z λk=>?_;exact ⟨_,k.p z,m.sl [0] z,h⟩
       refine oE h λAe At h=>gc 6 [iF Ab At,eA (m.r Ab) At] k z λk=>Qaj (cs:=[I 0,I 0,I 0,I 0,I 0,I 0,I 0]) m k zeroValue51 z z z z z λAy Bv a k m e Aw=>pN 1 k z λa k=>sT (cs':=[I Ae.f8,I Ae.fW,I Ae.fH,I Ae.fD,I Ae.fQ,I Ae.fM,I Ae.fF]) sizeOf51 m 0 Aw 0 k z z λCe a k e m Aq=>gl 10 [bF m 0 Aq z,bF m 1 Ad z] k z λk=>bS h k 37 z (λ_ h k=>?_) λ_ h k=>?_
       · refine ul 21 k z λk=>fS h k m z z
       refine oE h λBx Bk h=>gl 3 [bF m 1 Ad z] k z λk=>Q1y Ab Bk k Jlf z z z z z z λCh a k Ap=>pN 1 k z λa k=>oE h λCl Bg h=>cC k m call79 z (Qcv fu _ _ (m.r Ap) ⟨152,[pt Ay],z,call152,λw Cg Bz r e Ax hx=>by subst Ax; have m:=m.step e; exact Qx1 fu _ _ (Aq.agr (m.a 0 rfl) (by simp)) hx⟩ Bg) λBq e a k m=>pN 1 k rfl λa k=>ul 2 k z λk=>cI h k rfl (λBa h=>?_) λBa h=>?_
       · refine uc 11 k z λk=>fS h k m z z
       refine uc 3 k z λk=>?_;exact ⟨k.p z,m.sl [1] z,h⟩
     refine oE h λAc Bj h=>gc 8 [bA m 0 Ad z] k z λk=>cC k m call75 z (Qs2 fu _ (Qac (m.r Ah) (m.r Aa) (m.r Ab)) Bj) λBs e a k m=>pN 3 k z λa k=>Qaj (cs:=[I 0,I 0,I 0,I 0,I 0,I 0,I 0]) m k zeroValue53 z z z z z λBy Cb a k m e Bm=>sT (cs':=[I Ac.1.f8,I Ac.1.fW,I Ac.1.fH,I Ac.1.fD,I Ac.1.fK,I Ac.1.fQ,I Ac.1.fL]) sizeOf53 m 0 Bm 0 k z z λBr a k e m Cc=>ul 7 k z λk=>bS h k 52 z (λ_ h k=>?_) λ_ h k=>?_
     · refine oE h λBt Be h=>gl 3 [bF m 1 Ad z] k z λk=>cC k m call146 z (Qet fu _ _ (m.r Ah) ⟨153,[pt Af],z,call153,λw Cq Cn r e Bn hx=>by subst Bn; have m:=m.step e; exact Qxx fu _ _ (Ad.agr (m.a 1 rfl) (by simp)) (m.r Ah) (m.r Aa) (m.r Ab) hx⟩ Be) λCs e a k m=>pN 3 k rfl λa k=>ul 3 k z λk=>fS h k m rfl rfl
     refine ul 10 k z λk=>fS h k m z z
   exact ⟨_,k.p z,m.sl [0] z,h⟩
 exact ⟨_,k.p z,m.sl [0] z,h⟩
theorem Qnp (fu) {w0} (Ab v5) {v2 F3} (Aa:rd w0 F3 [v2] Ab) {r} (h:Qed fu Ab v5=some r):cS 266 [v2,.agg (Flat.e (v5)).toArray] w0 (I r):=by
 refine eg func266 z ntmps266 z λk m=>uc 2 k z λk=>Qbd (cs:=[I v5.fA,I v5.fB]) m k z z z z z z λb6 w9 a k m e Ai=>gl 12 [lF Aa] k z λk=>lG (λn a w=>∃ Ac,K 19 [(0,v2),(3,pt b6),(7,I (Ab.length:Int)),(8,I Ac)] a∧St [] w0 w [([b6],w9)]∧Qba fu Ab v5 n Ac=some r) ?_ fu ?_
 · rintro Aj a Ak ⟨Ac,k,m,h⟩;refine uc 6 k z λk=>cJ h k z (λh=>?_) λh=>?_
   · refine uc 11 k z λk=>Qg0 [] Qgf m z λAg hMd=>?_;have m:=hMd;have s:=Ext.refl ([]:List Nat) Ag;refine oE h λAh Ad h=>dr [1,2,0,3,4] 5 [bA hMd 0 Ai z,iF Aa Ad,eA (hMd.r Aa) Ad] k z s λk=>dT k 5 z z s (λw s=>Jm4 Jne (x:=v5) (y:=Ah) k z z z z z) λa k=>dD ((Qad ?_));refine cJ h k z (λh=>?_) λh=>?_
     · refine uc 12 k z λk=>fS h k m z z
     refine uc 8 k z λk=>?_;exact ⟨_,k.p z,m.sl [0] z,h⟩
   refine uc 11 k z λk=>fS h k m z z
 exact ⟨_,k.p z,m.sl [0] z,h⟩
theorem Qku (fu) {w0} (Ab v5) {v2 F3} (Aa:rd w0 F3 [v2] Ab) {r} (h:Qdl fu Ab v5=some r):cS 218 [v2,.agg (Flat.e (v5)).toArray] w0 (.bool (r)):=by
 refine eg func218 z ntmps218 z λk m=>uc 2 k z λk=>Qbd (cs:=[I v5.fA,I v5.fB]) m k z z z z z z λb6 w9 a k m e Ad=>oE h λAf Ac h=>gl 7 [bA m 0 Ad z] k z λk=>cC k m call266 z (Qnp fu _ (v5:Pair) (m.r Aa) Ac) λAe e a k m=>ul 5 k z λk=>fS h k m z z
theorem Qpc (fu) {w0} (Ab a5 b6) {v2 F3} (Aa:rd w0 F3 [v2] Ab) {r} (h:Qhp fu Ab a5 b6=some r):cS 154 [v2,I a5,I b6] w0 (.bool (r)):=by
 refine eg func154 z ntmps154 z λk m=>uc 10 k z λk=>sv k z (Qag Jf4 k (cs:=#[I a5,I b6]) (ps:=[(0,.tmp 8),(1,.tmp 9)]) z z (by kernel_rfl)) λa k=>oE h λx7 Ac h=>cC k m call218 z (Qku fu _ (⟨a5,b6⟩:Pair) (m.r Aa) Ac) λAd e a k m=>ul 4 k z λk=>fS h k m z z
theorem Q0c (fu) {w0} (Ad Aa) {v2 F3} (Ac:rd w0 F3 [v2] Ad) {r} (h:Qqe fu Ad Aa=some r):cS 78 [v2,I Aa] w0 (.bool (r)):=by
 refine eg func78 z ntmps78 z λk m=>oE h λx6 Al h=>uc 9 k z λk=>cC k m call57 z (Qax fu _ _ _  Al) λw9 e a k m=>ul 3 k z λk=>cJ h k z (λh=>?_) λh=>?_
 · refine uc 7 k z λk=>fS h k m z z
 refine uc 10 k z λk=>lG (λn a w=>∃ Ab,K 34 [(0,v2),(1,I Aa),(10,I Aa),(11,I Ab)] a∧St [] w0 w []∧Qfg fu Ad Aa n Ab=some r) ?_ fu ?_
 · rintro Af a Aq ⟨Ab,k,m,h⟩;refine uc 6 k z λk=>cJ h k z (λh=>?_) λh=>?_
   · refine oE h λAs Aj h=>uc 16 k z λk=>cC k m call154 z (Qpc fu _ _ _ (m.r Ac) Aj) λAy e a k m=>ul 3 k z λk=>cJ h k z (λh=>?_) λh=>?_
     · refine uc 12 k z λk=>fS h k m z z
     refine uc 9 k z λk=>lG (λn a w=>∃ Ae,K 34 [(0,v2),(1,I Aa),(5,I Ab),(10,I Aa),(11,I Ab),(19,I Aa),(20,I Ae)] a∧St [] w0 w []∧Qev fu (Qfg fu Ad Aa Af) Ad Aa Ab n Ae=some r) ?_ fu ?_
     · rintro Aw a Ax ⟨Ae,k,m,h⟩;refine uc 6 k z λk=>cJ h k z (λh=>?_) λh=>?_
       · refine oE h λAv Ai h=>uc 15 k z λk=>cC k m call154 z (Qpc fu _ _ _ (m.r Ac) Ai) λAu e a k m=>pN 3 k z λa k=>oE h λAt Ap h=>cC k m call154 z (Qpc fu _ _ _ (m.r Ac) Ap) λAr e a k m=>sv k z (Jfs k underlying4 z z z) λa k=>ul 2 k z λk=>cJ h k z (λh=>?_) λh=>?_
         · refine uc 15 k z λk=>fS h k m z z
         refine uc 8 k z λk=>?_;exact ⟨_,k.p z,m.sl [] z,h⟩
       refine uc 11 k z λk=>?_;exact ⟨_,k.p z,m.sl [] z,h⟩
     exact ⟨_,k.p z,m.sl [] z,h⟩
   refine uc 11 k z λk=>fS h k m z z
 exact ⟨_,k.p z,m.sl [] z,h⟩
theorem Qhn (fu:Nat) {w0:World} (x1:List Int) {v2:Value} {F3:List Nat} (Aa:ow w0 F3 [v2] x1) {r:List Int}
    (h:Qcl fu x1=some r) :
    Calls Tryz.prog 87 #[v2] w0 λe w=>∃ H:List Nat,e=.returned (.tuple #[])∧Ext F3 w0 w∧(∀ b∈H,b∈F3∨w0.heap.size≤b)∧ow w H [v2] r :=
  (Q86 (λblk off cap zs w=>Tryz.slices_Sort_int blk off cap zs w) (λp cap w=>Tryz.slices_Sort_int_none p cap w) x1 Aa h).mono λe w ⟨h1,h2,h3⟩=>⟨_,h1,h2,λb hb=>.inl hb,h3⟩
theorem Qz7 (fu) {w0} (x1 t2) {r} (h:Qso fu x1 t2=some r):cS 81 [.agg (Flat.e (x1)).toArray,.agg (Flat.e (t2)).toArray] w0 (.bool (r)):=by
 refine eg func81 z ntmps81 z λk m=>uc 2 k z λk=>Qbd (cs:=[I x1.f8,I x1.fW,I x1.fH,I x1.fD,I x1.fQ,I x1.fM,I x1.fF]) m k z z z z z z λb3 w5 a k m e Ag=>Qbd (cs:=[I t2.f8,I t2.fW,I t2.fH,I t2.fD,I t2.fK,I t2.fQ,I t2.fL]) m k z z z z z z λb6 w9 a k m e Af=>ul 3 k z λk=>cg (λa w=>∃ Al Ah Ap Am Ao Ak Ai Aj,K 57 [(2,pt b3),(3,pt b6),(5,Ah),(6,Ak)] a∧St [] w0 w [([b3],w5),([b6],w9),(Ap,Am),(Ai,Aj)]∧ow Am Ap [Ah] Al∧ow Aj Ai [Ak] Ao∧Qtu fu x1 t2 Al Ao=some r) ?_ ?_
 · rintro a Cj ⟨Al,Ah,Ap,Am,Ao,Ak,Ai,Aj,k,m,By,Bs,h⟩;refine oE h λCr Bb h=>uc 3 k z λk=>sC k call87 z (Qhn fu _ (m.v By 2 z) Bb) λCl Cu hR=>?_;obtain ⟨Ce,rfl,e,Bi,Aa⟩:=hR;refine ⟨_,z,λa k=>?_⟩;have m:=m.mut 2 z e _ (λb hb=>⟨Bi b hb,Enc.rd_lt (Enc.ow_rd Aa) b hb⟩) (Enc.ow_nd Aa);refine oE h λCq Bq h=>ul 5 k z λk=>sC k call87 z (Qhn fu _ (m.v Bs 3 z) Bq) λCi Cm hR=>?_;obtain ⟨Cg,rfl,e,Be,Ab⟩:=hR;refine ⟨_,z,λa k=>?_⟩;have m:=m.mut 3 z e _ (λb hb=>⟨Be b hb,Enc.rd_lt (Enc.ow_rd Ab) b hb⟩) (Enc.ow_nd Ab);refine ul 3 k z λk=>Qg0 [] Qgf m z λBo hMd=>?_;have m:=hMd;have s:=Ext.refl ([]:List Nat) Bo;refine o2 h λBm Av Bn Au h=>dr [0,3,1,2,4,5,6,7] 8 [iF (Enc.ow_rd Aa) Av,eF (hMd.q Aa 2 z) Av 0,iF (Enc.ow_rd Ab) Au,eF (hMd.q Ab 3 z) Au 0] k z s λk=>bS h k 32 z (λ_ h k=>?_) λ_ h k=>?_
   · refine o2 h λBc Az Bg Aq h=>dr [8,11,9,10,12,13,14,15,16] 9 [iF (Enc.ow_rd Aa) Az,eF (hMd.q Aa 2 z) Az 0,iF (Enc.ow_rd Ab) Aq,eF (hMd.q Ab 3 z) Aq 0] k z s λk=>bS h k 41 z (λ_ h k=>?_) λ_ h k=>?_
     · refine o2 h λCa Ay Bt Aw h=>dr [17,20,18,19,21,22,23,24,25] 9 [iF (Enc.ow_rd Aa) Ay,eF (hMd.q Aa 2 z) Ay 0,iF (Enc.ow_rd Ab) Aw,eF (hMd.q Ab 3 z) Aw 0] k z s λk=>bS h k 50 z (λ_ h k=>?_) λ_ h k=>?_
       · refine dr [26,27,28,29,30,31,32] 7 [bF hMd 0 Ag z,bF hMd 1 Af z] k z s λk=>dD ?_;refine (Qad ?_);refine wp_ret (fS h k m z z)
       refine dM [26,27,28,29,30,31,32] 7 z k z s λa k=>dD ?_;refine (Qad ?_);refine wp_ret (fS h k m z z)
     refine dM [17,18,19,20,21,22,23,24,25,26,27,28,29,30,31,32] 16 z k z s λa k=>dD ?_;refine (Qad ?_);refine wp_ret (fS h k m z z)
   refine dM [8,9,10,11,12,13,14,15,16,17,18,19,20,21,22,23,24,25,26,27,28,29,30,31,32] 25 z k z s λa k=>dD ?_;refine (Qad ?_);refine wp_ret (fS h k m z z)
 refine Qg0 [] Qgf m z λCd hMd=>?_;have m:=hMd;have s:=Ext.refl ([]:List Nat) Cd;refine dr [0,1,2,3,4,5,7,8,9,10,11,12] 12 [bF hMd 1 Ag z,bF hMd 1 Ag z,bF hMd 1 Ag z,bF hMd 0 Af z,bF hMd 0 Af z,bF hMd 0 Af z] k z s λk=>dG2 6 13 (by kernel_rfl) z z ?_ ?_
 · refine Qbw (cs:=[I x1.fW,I x1.fH,I x1.fD]) (ps:=[(0,.tmp 8),(1,.tmp 10),(2,.tmp 12)]) Qbe m k z z z z z z z (by decide) z (by exact fC z (fC z (fC z fN))) λAt Bu Cn a k m e Bf Bd=>?_;have Ck:=lo1 (Nat.le_trans s.size Bd);have Bk:=Qai Bf ([x1.fW,x1.fH,x1.fD]:List Int) z z z;refine ns s e λs=>dM [14] 1 z k z s λa k=>dG 13 z (Qbw (cs:=[I t2.fW,I t2.fH,I t2.fD]) (ps:=[(0,.tmp 15),(1,.tmp 17),(2,.tmp 19)]) Qbe m k z z z z z z z (by decide) z (by exact fC z (fC z (fC z fN))) λAx Br Co a k m e Bz Cb=>?_);have Cs:=lo1 (Nat.le_trans s.size Cb);have Bj:=Qai Bz ([t2.fW,t2.fH,t2.fD]:List Int) z z z;refine ns s e λs=>dM [15] 1 z k z s λa k=>dD ((Qad ?_));exact ⟨_,_,_,_,_,_,_,_,k.p z,m.sl [3,2,1,0] z,Bk,Bj,h⟩
 refine Qbw (cs:=[I t2.fW,I t2.fH,I t2.fD]) (ps:=[(0,.tmp 15),(1,.tmp 17),(2,.tmp 19)]) Qbe m k z z z z z z z (by decide) z (by exact fC z (fC z (fC z fN))) λAs Ba Ch a k m e Bl Bx=>?_;have Cv:=lo1 (Nat.le_trans s.size Bx);have Bp:=Qai Bl ([t2.fW,t2.fH,t2.fD]:List Int) z z z;refine ns s e λs=>dG 6 z (Qbw (cs:=[I x1.fW,I x1.fH,I x1.fD]) (ps:=[(0,.tmp 8),(1,.tmp 10),(2,.tmp 12)]) Qbe m k z z z z z z z (by decide) z (by exact fC z (fC z (fC z fN))) λAr Bw Cp a k m e Cc Bh=>?_);have Ct:=lo1 (Nat.le_trans s.size Bh);have Bv:=Qai Cc ([x1.fW,x1.fH,x1.fD]:List Int) z z z;refine ns s e λs=>dM [14,15] 2 z k z s λa k=>dD ((Qad ?_));exact ⟨_,_,_,_,_,_,_,_,k.p z,m.sl [3,2,0,1] z,Bv,Bp,h⟩
theorem Q0r (fu) {w0} (x1 x2) {b3} (Aa:bx w0 b3 [I x2.f8,I x2.fW,I x2.fH,I x2.fD,I x2.fK,I x2.fQ,I x2.fL] 53) {r} (h:Qqs fu x1 x2=some r):cS 80 [.agg (Flat.e (x1)).toArray,pt b3] w0 (.bool (r)):=by
 refine eg func80 z ntmps80 z λk m=>uc 2 k z λk=>Qbd (cs:=[I x1.f8,I x1.fW,I x1.fH,I x1.fD,I x1.fQ,I x1.fM,I x1.fF]) m k z z z z z z λb5 w7 a k m e Ac=>gl 6 [bA m 0 Ac z] k z λk=>sv k z (Qjd Q8i (Aa.at (m.a00 Aa.lt1) 0 7 z z z) z k z z) λa k=>oE h λx8 Ab h=>cC k m call81 z (Qz7 fu (x1:Item) (x2:Typ)  Ab) λAd e a k m=>ul 5 k z λk=>fS h k m z z
theorem Q0o (fu) {w0} (t1 x2) {b3} (Aa:bx w0 b3 [I x2.fW,I x2.fD,I x2.fH,I x2.fQ] 32) {r} (h:Qqc fu t1 x2=some r):cS 83 [.agg (Flat.e (t1)).toArray,pt b3] w0 (.bool (r)):=by
 refine eg func83 z ntmps83 z λk m=>uc 2 k z λk=>Qbd (cs:=[I t1.f8,I t1.fW,I t1.fH,I t1.fD,I t1.fK,I t1.fQ,I t1.fL]) m k z z z z z z λb5 w7 a k m e Ac=>gl 11 [bF m 0 Ac z,pF (r:=[]) (Aa.at (m.a00 Aa.lt1) 0 1 z z z)] k z λk=>bS h k 9 z (λ_ h k=>?_) λ_ h k=>?_
 · refine ul 27 k z λk=>fS h k m z z
 refine gl 7 [bF m 0 Ac z,pF (r:=[]) (Aa.at (m.a00 Aa.lt1) 1 1 z z z)] k z λk=>bS h k 16 z (λ_ h k=>?_) λ_ h k=>?_
 · refine ul 20 k z λk=>fS h k m z z
 refine gl 7 [bF m 0 Ac z,pF (r:=[]) (Aa.at (m.a00 Aa.lt1) 2 1 z z z)] k z λk=>bS h k 23 z (λ_ h k=>?_) λ_ h k=>?_
 · refine ul 13 k z λk=>fS h k m z z
 refine gl 13 [bF m 0 Ac z,bF m 0 Ac z,pF (r:=[]) (Aa.at (m.a00 Aa.lt1) 3 1 z z z)] k z λk=>fS h k m z z
theorem Qxk (fu) {w0} (r1) {Af F3} (Ah:rd w0 F3 Af r1) {r} (h:Qq2 fu r1=some r):cS 34 [.agg Af.toArray] w0 (I r):=by
 refine eg func34 z ntmps34 z λk m=>?_;obtain ⟨v5,F6,v7,F8,v9,Bo,rfl,rfl,Ab,Ac,Ad⟩:=Ah;refine uc 2 k z λk=>Qbd (cs:=(cR r1 v5 v7 v9)) m k z z z z z z λBg Bu a k m e Aa=>oE h λAe Aj h=>gl 6 [bA m 0 Aa z] k z λk=>cC k m call75 z (Qs2 fu _ (Qac (m.r Ab) (m.r Ac) (m.r Ad)) Aj) λBn e a k m=>pN 3 k z λa k=>Qaj (cs:=[I 0,I 0,I 0,I 0,I 0,I 0,I 0]) m k zeroValue53 z z z z z λAs Bf a k m e Av=>sT (cs':=[I Ae.1.f8,I Ae.1.fW,I Ae.1.fH,I Ae.1.fD,I Ae.1.fK,I Ae.1.fQ,I Ae.1.fL]) sizeOf53 m 0 Av 0 k z z λBc a k e m Aq=>gl 7 [bA m 1 Aa z] k z λk=>Qaj (cs:=[I 0,I 0,I 0,I 0]) m k zeroValue32 z z z z z λAy Bw a k m e Az=>sT (cs':=[I r1.fJ.fW,I r1.fJ.fD,I r1.fJ.fH,I r1.fJ.fQ]) sizeOf32 m 0 Az 0 k z z λBi a k e m Ag=>oE h λBb Ai h=>gl 7 [bA m 2 Aa z] k z λk=>cC k m call76 z (Qyv fu _ (Qac (m.r Ab) (m.r Ac) (m.r Ad)) Ai) λBt e a k m=>ul 4 k z λk=>?_;refine cJ h k z (λh=>?_) λh=>?_
 · refine uc 8 k z λk=>fS h k m z z
 refine oE h λBd Ap h=>gc 3 [bA m 2 Aa z] k z λk=>cC k m call77 z (Q0n fu _ (Qac (m.r Ab) (m.r Ac) (m.r Ad)) Ap) λBe e a k m=>ul 4 k z λk=>cJ h k z (λh=>?_) λh=>?_
 · refine uc 8 k z λk=>fS h k m z z
 refine oE h λBv Am h=>gc 6 [bF m 2 Aa z,bF m 2 Aa z] k z λk=>cC k m call78 z (Q0c fu _ _ (m.r Ab) Am) λBj e a k m=>ul 4 k z λk=>cJ h k z (λh=>?_) λh=>?_
 · refine uc 8 k z λk=>fS h k m z z
 refine oE h λBs Au h=>gc 5 [bF m 2 Aa z] k z λk=>cC k m call79 z (Qcv fu _ _ (m.r Ad) ⟨80,[pt As],z,call80,λw Bp Bm r e Ao hx=>by subst Ao; have m:=m.step e; exact Q0r fu _ _ (Aq.agr (m.a 1 rfl) (by simp)) hx⟩ Au) λBl e a k m=>pN 1 k rfl λa k=>ul 2 k z λk=>cI h k rfl (λAl h=>?_) λAl h=>?_
 · refine uc 8 k z λk=>fS h k m z z
 refine oE h λBk At h=>gc 5 [bF m 2 Aa z] k z λk=>cC k m call82 z (Qcu fu _ _ (m.r Ac) ⟨83,[pt Ay],z,call83,λw Bq Br r e Ak hx=>by subst Ak; have m:=m.step e; exact Q0o fu _ _ (Ag.agr (m.a 0 rfl) (by simp)) hx⟩ At) λBh e a k m=>pN 1 k rfl λa k=>ul 2 k z λk=>cI h k rfl (λAw h=>?_) λAw h=>?_
 · refine uc 8 k z λk=>fS h k m z z
 refine uc 9 k z λk=>fS h k m z z
theorem Q01 (fu) {w0} (hT:Te Tryz.prog w0) (Af) {r} (h:Qqq fu Af=some r):cS 10 [.string (Af)] w0 (I r):=by
 refine eg func10 z ntmps10 z λk m=>oE h λx2 Ai h=>uc 8 k z λk=>sC k call13 z (Qul fu (m.te hT) _  Ai) λe4 w5 hR=>?_;obtain ⟨At,F6,rfl,e,Aa,Am⟩:=hR;refine ⟨_,z,λa k=>?_⟩;have m:=m.nw e Am Aa;obtain ⟨Ab,Ar,Ad,Av,Ae,Ax,rfl,rfl,Ah,Ac,Ag,_⟩:=Aa;have m:=m.split2;have m:=m.split2at1;refine pN 3 k z λa k=>Qaj (cs:=[I 0,I 0,I 0,I 0,I 0,I 0,.slice none 0 0,.slice none 0 0,I 0,.slice none 0 0]) m k zeroValue37 z z z z z λAu As a k m e Aj=>sT (cs':=(cR x2.1 Ab Ad Ae)) sizeOf37 m 0 Aj 0 k z (Qa9 z (Qa9 z (Qa9 z (Qa9 z (Qa9 z (Qa9 z (Qa9 (Qee (Enc.ow_rd Ah)) (Qa9 (Qee (Enc.ow_rd Ac)) (Qa9 z (Qa9 (Qee (Enc.ow_rd Ag)) Qqb)))))))))) λAp a k e m Al=>ul 10 k z λk=>cJ h k z (λh=>?_) λh=>?_
 · refine uc 7 k z λk=>fS h k m z z
 refine oE h λAq Ao h=>gc 5 [bA m 0 Al z] k z λk=>cC k m call34 z (Qxk fu _ (Qac (m.q Ah 1 z) (m.q Ac 2 z) (m.q Ag 3 z)) Ao) λAw e a k m=>ul 4 k z λk=>fS h k m z z
theorem Qif (fu) {w0} (r1) {Ab F3} (Ae:rd w0 F3 Ab r1) {r} (h:Qfq fu r1=some r):cS 45 [.agg Ab.toArray] w0 (.bool (r)):=by
 refine eg func45 z ntmps45 z λk m=>?_;obtain ⟨v5,F6,v7,F8,v9,Ak,rfl,rfl,Ad,Aa,Ac⟩:=Ae;refine uc 2 k z λk=>Qbd (cs:=(cR r1 v5 v7 v9)) m k z z z z z z λAh Al a k m e Ag=>oE h λAi Af h=>gl 6 [bA m 0 Ag z] k z λk=>cC k m call34 z (Qxk fu _ (Qac (m.r Ad) (m.r Aa) (m.r Ac)) Af) λAj e a k m=>ul 5 k z λk=>fS h k m z z
theorem Qhc (fu) {w0} (Ab) {v2 F3} (Aa:rd w0 F3 [v2] Ab) {r} (h:Qcx fu Ab=some r):cL 248 [v2] w0 r:=by
 refine eg func248 z ntmps248 z λk m=>uc 9 k z λk=>?_;obtain ⟨Ah,Ae,Ag⟩:=Jje Aa;refine sv k z (Ag k underlying71 z z z) λa k=>ul 2 k z λk=>Jew (b:=Ah) k z (λAc=>?_) (λAc=>?_)
 · have Af:=Ae Ac;rw [Af] at h;have h:some (([]:List Int))=some r:=h;refine uc 7 k z λk=>?_;cases h;exact Qbj k z (RV.tmp k z) ⟨_,[],z,m.ext,(Qaw _),(by simp)⟩
 refine uc 4 k z λk=>sB (cs:=[]) (ps:=[]) Qbe m k z (by exact fN) λAo As Ar a k m e Ad=>?_;have Aj:=Qai Ad ([]:List Int) z z z;refine pN 1 k z λa k=>oE h λAq Ai h=>Qcz Ai Qbe z m 0 Aj (News.rd (m.r Aa)) z z k z z z z z z z λAm Ak Ap a k e m Al=>ul 4 k z λk=>?_;cases h;exact Qbj k z (RV.tmp k z) ⟨_,Ak,z,m.ext,(m.v Al 0 z),(m.fresh 0 z)⟩
theorem Qt4 (fu:Nat) {w0:World} (x1:List Int) {v2:Value} {F3:List Nat} (Aa:ow w0 F3 [v2] x1) {r:List Int}
    (h:Qib fu x1=some r) :
    Calls Tryz.prog 249 #[v2] w0 λe w=>∃ (v0:Value) (G0:List Nat),e=.returned v0∧Ext F3 w0 w∧ow w G0 [v0] r∧(∀ b∈G0,b∈F3∨w0.heap.size≤b) :=
  Q4h (λblk off cap zs w=>Tryz.slices_Compact_int blk off cap zs w) (λp cap w=>Tryz.slices_Compact_int_empty p cap w) x1 Aa h
theorem Qxf (fu) {w0} (Ae) {v2 F3} (Ad:rd w0 F3 [v2] Ae) {r} (h:Qjf fu Ae=some r):cL 185 [v2] w0 r:=by
 refine eg func185 z ntmps185 z λk m=>oE h λx5 Af h=>uc 8 k z λk=>sL k m call248 z (Qhc fu _ (m.r Ad) Af) λw9 Ar Ai Aa k m=>oE h λAt Am h=>ul 6 k z λk=>sC k call87 z (Qhn fu _ (m.v Aa 0 z) Am) λAq Aw hR=>?_;obtain ⟨Ap,rfl,e,Al,Ab⟩:=hR;refine ⟨_,z,λa k=>?_⟩;have m:=m.mut 0 z e _ (λb hb=>⟨Al b hb,Enc.rd_lt (Enc.ow_rd Ab) b hb⟩) (Enc.ow_nd Ab);refine oE h λAo Ah h=>ul 5 k z λk=>sC k call249 z (Qt4 fu _ (m.v Ab 0 z) Ah) λAu Av hR=>?_;obtain ⟨As,Ag,rfl,e,Ac,Aj⟩:=hR;refine ⟨_,z,λa k=>?_⟩;have m:=m.mut 0 z e _ (λb hb=>⟨Aj b hb,Enc.rd_lt (Enc.ow_rd Ac) b hb⟩) (Enc.ow_nd Ac);refine ul 4 k z λk=>?_;cases h;exact Qbj k z (RV.tmp k z) ⟨_,Ag,z,m.ext,(m.v Ac 0 z),(m.fresh 0 z)⟩
theorem Q0l (fu) {w0} (r1) {Aj F3} (Ar:rd w0 F3 Aj r1) {r} (h:Qqp fu r1=some r):cL 112 [.agg Aj.toArray] w0 r:=by
 refine eg func112 z ntmps112 z λk m=>?_;obtain ⟨v5,F6,v7,F8,v9,Bu,rfl,rfl,Ao,Ap,Ab⟩:=Ar;refine uc 2 k z λk=>Qbd (cs:=(cR r1 v5 v7 v9)) m k z z z z z z λBn Cb a k m e Am=>oE h λCa At h=>gl 7 [bA m 0 Am z] k z λk=>cC k m call45 z (Qif fu _ (Qac (m.r Ao) (m.r Ap) (m.r Ab)) At) λBs e a k m=>ul 3 k z λk=>cJ h k z (λh=>?_) λh=>?_
 · refine uc 7 k z λk=>?_;cases h;exact Qbj k z (RV.tmp k z) ⟨_,[],z,m.ext,(Qaw _),(by simp)⟩
 refine uc 4 k z λk=>sB (cs:=[]) (ps:=[]) Qbe m k z (by exact fN) λAl Ay Bq a k m e Be=>?_;have Bg:=Qai Be ([]:List Int) z z z;refine gl 13 [bF m 1 Am z,lF Ab] k z λk=>lG (λn a w=>∃ Ae Ag Ah Ad Ac,K 25 [(3,Ag),(11,v9),(12,I (r1.fV.length:Int)),(13,I Ac)] a∧St [] w0 w [(Ah,Ad)]∧ow Ad Ah [Ag] Ae∧Qgz fu r1 n Ae Ac=some r) ?_ fu ?_
 · rintro Bt a Bv ⟨Ae,Ag,Ah,Ad,Ac,k,m,Ak,h⟩;refine uc 6 k z λk=>cJ h k z (λh=>?_) λh=>?_
   · refine oE h λAa Aq h=>gc 8 [iF Ab Aq,eA (m.r Ab) Aq] k z λk=>Qaj (cs:=[I 0,I 0,I 0,I 0,I 0,I 0,I 0]) m k zeroValue51 z z z z z λBp By a k m e Az=>sT (cs':=[I Aa.f8,I Aa.fW,I Aa.fH,I Aa.fD,I Aa.fQ,I Aa.fM,I Aa.fF]) sizeOf51 m 0 Az 0 k z z λBw a k e m Bj=>gl 6 [bF m 0 Bj z] k z λk=>sB (cs:=[I Aa.fM]) (ps:=[(0,.tmp 19)]) Qbe m k z (by exact fC z fN) λBx Br Bm a k m e Bf=>?_;have Ax:=Qai Bf ([Aa.fM]:List Int) z z z;refine oE h λBi As h=>Qcz As Qbe z m 2 Ak (News.rd (m.q Ax 0 z)) z z k z z z z z z z λBh Aw Av a k e m Au=>ul 9 k z λk=>?_;exact ⟨_,_,_,_,_,k.p z,m.sl [2] z,Au,h⟩
   refine oE h λBo Ba h=>uc 8 k z λk=>sL k m call185 z (Qxf fu _ (m.q Ak 0 z) Ba) λBk Bz Ai Af k m=>ul 4 k z λk=>?_;cases h;exact Qbj k z (RV.tmp k z) ⟨_,Ai,z,m.ext,(m.v Af 0 z),(m.fresh 0 z)⟩
 exact ⟨_,_,_,_,_,k.p z,m.sl [0] z,Bg,h⟩
theorem Q2c (fu) {w0} (Ac a5 b6) {v2 F3} (Ab:rd w0 F3 [v2] Ac) {r} (h:Qr3 fu Ac a5 b6=some r):cS 189 [v2,I a5,I b6] w0 (.bool (r)):=by
 refine eg func189 z ntmps189 z λk m=>oE h λx7 Ad h=>uc 10 k z λk=>cC k m call154 z (Qpc fu _ _ _ (m.r Ab) Ad) λAg e a k m=>pN 1 k z λa k=>bS h k 11 z (λ_ h k=>?_) λ_ h k=>?_
 · refine pN 3 k z λa k=>oE h λAh Ae h=>cC k m call154 z (Qpc fu _ _ _ (m.r Ab) Ae) λAf e a k m=>ul 5 k z λk=>fS h k m z z
 refine ul 9 k z λk=>fS h k m z z
theorem Qxe (fu) {w0} (x1 x2 x8) {v5 F6 b3} (Aa:bx w0 b3 [v5] 33) (Ac:rd w0 F6 [v5] x2) {b9} (Ab:bx w0 b9 [I x8] 3) {r} (h:Qkd fu x1 x2 x8=some r):cS 188 [I x1,pt b3,pt b9] w0 (.bool (r)):=by
 refine eg func188 z ntmps188 z λk m=>oE h λAf Ad h=>gc 10 [pF (r:=[]) (Aa.at (m.a00 Aa.lt1) 0 1 z z z),pF (r:=[]) (Ab.at (m.a00 Ab.lt1) 0 1 z z z)] k z λk=>cC k m call189 z (Q2c fu _ _ _ (m.r Ac) Ad) λAe e a k m=>ul 5 k z λk=>fS h k m z z
theorem Qkn (fu) {w0} (Ab f5) {v2 F3} (Aa:rd w0 F3 [v2] Ab) {v6} (Aj:Qvo Tryz.prog w0 v6 f5) {r} (h:Qdk fu Ab f5=some r):cS 237 [v2,v6] w0 (I r):=by
 refine eg func237 z ntmps237 z λk m=>?_;obtain ⟨Ak,Ae,rfl,Ag,Ah⟩:=Aj;refine gc 14 [lF Aa] k z λk=>lG (λn a w=>∃ Ac,K 19 [(0,v2),(1,(.func (.func Ak) #[] Ae.toArray)),(7,I (Ab.length:Int)),(8,I Ac)] a∧St [] w0 w []∧Qb3 fu Ab f5 n Ac=some r) ?_ fu ?_
 · rintro Aq a Ar ⟨Ac,k,m,h⟩;refine uc 6 k z λk=>cJ h k z (λh=>?_) λh=>?_
   · refine o2 h λAm Ad As Af h=>gc 17 [iF Aa Ad,eF (m.r Aa) Ad 0] k z λk=>Qto k Ag z z z z z z (Ah _ _ _ _ m.ext z Af) λAo Ap hR=>?_;obtain ⟨rfl,e⟩:=hR;refine ⟨_,z,λa k=>?_⟩;have m:=m.step e;refine ul 2 k z λk=>cJ h k z (λh=>?_) λh=>?_
     · refine uc 12 k z λk=>fS h k m z z
     refine uc 8 k z λk=>?_;exact ⟨_,k.p z,m.sl [] z,h⟩
   refine uc 11 k z λk=>fS h k m z z
 exact ⟨_,k.p z,m.sl [] z,h⟩
theorem Qrf (fu) {w0} (Ab f5) {v2 F3} (Aa:rd w0 F3 [v2] Ab) {v6} (Ag:Qvo Tryz.prog w0 v6 f5) {r} (h:Qdz fu Ab f5=some r):cS 169 [v2,v6] w0 (.bool (r)):=by
 refine eg func169 z ntmps169 z λk m=>?_;obtain ⟨Ak,Ai,rfl,Ad,Ae⟩:=Ag;refine oE h λAl Af h=>uc 9 k z λk=>cC k m call237 z (Qkn fu _ _ (m.r Aa) ⟨_,_,z,Ad,λw Ah Ac r e=>Ae w Ah Ac r (m.ext.trans e (by simp))⟩ Af) λAj e a k m=>ul 5 k z λk=>fS h k m z z
theorem Qyx (fu) {w0} (l1 x5 Af) {v2 F3} (Ab:rd w0 F3 [v2] l1) {v8 F9 b6} (Ae:bx w0 b6 [v8] 33) (Ad:rd w0 F9 [v8] x5) {Aa} (Ac:bx w0 Aa [I Af] 3) {r} (h:Qn7 fu l1 x5 Af=some r):cS 187 [v2,pt b6,pt Aa] w0 (.bool (r)):=by
 refine eg func187 z ntmps187 z λk m=>oE h λAk Ag h=>uc 9 k z λk=>cC k m call169 z (Qrf fu _ _ (m.r Ab) ⟨188,[pt b6,pt Aa],z,call188,λw Aj Ai r e Ah hx=>by subst Ah; have m:=m.step e; exact Qxe fu _ _ _ (Ae.agr (m.a00 Ae.lt1) (by simp)) (m.r Ad) (Ac.agr (m.a00 Ac.lt1) (by simp)) hx⟩ Ag) λAl e a k m=>pN 2 k rfl λa k=>ul 3 k z λk=>fS h k m rfl rfl
theorem Qje (fu) {w0} (Ab f5) {v2 F3} (Aa:rd w0 F3 [v2] Ab) {v6} (Al:Qvo Tryz.prog w0 v6 f5) {r} (h:Qc4 fu Ab f5=some r):cS 186 [v2,v6] w0 (I r):=by
 refine eg func186 z ntmps186 z λk m=>?_;obtain ⟨Aj,Ap,rfl,Ah,Ai⟩:=Al;refine gc 14 [lF Aa] k z λk=>lG (λn a w=>∃ Ac,K 19 [(0,v2),(1,(.func (.func Aj) #[] Ap.toArray)),(7,I (Ab.length:Int)),(8,I Ac)] a∧St [] w0 w []∧Qbv fu Ab f5 n Ac=some r) ?_ fu ?_
 · rintro At a Av ⟨Ac,k,m,h⟩;refine uc 6 k z λk=>cJ h k z (λh=>?_) λh=>?_
   · refine oE h λAx Ae h=>gc 16 [iF Aa Ae] k z λk=>?_;obtain ⟨As,Am,Ar,Ad,Ak,Af⟩:=Qaz Aa (Qah Ae).2.2;obtain ⟨Ay,rfl⟩:∃ v,Am=[v]:=by obtain ⟨_,_,hq,_⟩:=Ad; exact ⟨_,hq⟩
     refine oE h λAu Ag h=>gl 1 [pF (Ak.agr (m.a00 (Enc.rd_lt Aa)) Af)] k z λk=>Qto k Ah z z z z z z (Ai _ _ _ _ m.ext ⟨_,(m.r Ad)⟩ Ag) λAz Aw hR=>?_;obtain ⟨rfl,e⟩:=hR;refine ⟨_,z,λa k=>?_⟩;have m:=m.step e;refine ul 2 k z λk=>cJ h k z (λh=>?_) λh=>?_
     · refine uc 12 k z λk=>fS h k m z z
     refine uc 8 k z λk=>?_;exact ⟨_,k.p z,m.sl [] z,h⟩
   refine uc 11 k z λk=>fS h k m z z
 exact ⟨_,k.p z,m.sl [] z,h⟩
theorem Q3l (fu) {w0} (Ap Bf) {v2 F3} (Au:rd w0 F3 [v2] Ap) {v6 F7} (Bc:rd w0 F7 [v6] Bf) {r} (h:Qsb fu Ap Bf=some r):cL 111 [v2,v6] w0 r:=by
 refine eg func111 z ntmps111 z λk m=>uc 2 k z λk=>Qbd (cs:=[v2]) m k z z z z z (Qid Au) λb9 At a k m e Eb=>ul 5 k z λk=>sB (cs:=[]) (ps:=[]) Qve m k z (by exact fN) λBg Dy Fa a k m e Ec=>?_;have Df:=Qru (α:=List Int) Ec;refine oE h λAo Ch h=>ul 7 k z λk=>sL k m call185 z (Qxf fu _ (m.r Bc) Ch) λAs Bb Ai Ah k m=>gl 5 [lF (Enc.ow_rd Ah)] k z λk=>lG (λn a w=>∃ Ae Ag Ac Ar Af,K 42 [(2,pt b9),(5,Ag),(11,Bb),(12,I (Ao.length:Int)),(13,I Af)] a∧St [] w0 w [([b9],At),(Ai,As),(Ac,Ar)]∧ow Ar Ac [Ag] Ae∧Qeo fu Ap Ao n Ae Af=some r) ?_ fu ?_
 · rintro Bq a Ft ⟨Ae,Ag,Ac,Ar,Af,k,m,Aa,h⟩;refine uc 6 k z λk=>cJ h k z (λh=>?_) λh=>?_
   · refine uc 2 k z λk=>cg (λa w=>∃ Am Aj Al Ak,K 42 [(2,pt b9),(5,Aj),(11,Bb),(12,I (Ao.length:Int)),(13,I Af)] a∧St [] w0 w [([b9],At),(Ai,As),(Al,Ak)]∧ow Ak Al [Aj] Am∧Qiq fu (Qeo fu Ap Ao Bq) Af Am=some r) ?_ ?_
     · rintro a Fp ⟨Am,Aj,Al,Ak,k,m,Cu,h⟩;refine uc 5 k z λk=>?_;exact ⟨_,_,_,_,_,k.p z,m.sl [0,1,2] z,Cu,h⟩
     refine oE h λAd Az h=>gc 5 [iF (Enc.ow_rd Ah) Az,eF (m.q Ah 1 z) Az 0] k z λk=>Qaj (cs:=[I 0]) m k zeroValue3 z z z z z λAy Er a k m e Cw=>sT (cs':=[I Ad]) sizeOf3 m 0 Cw 0 k z z λBe a k e m Aq=>oE h λEu Ci h=>gl 6 [bF m 0 Aq z] k z λk=>cC k m call57 z (Qax fu _ _ _  Ci) λGc e a k m=>ul 3 k z λk=>cJ h k z (λh=>?_) λh=>?_
     · refine uc 4 k z λk=>?_;exact ⟨_,_,_,_,k.p z,m.sl [1,2,3] z,Aa,h⟩
     refine oE h λBh Dm h=>uc 6 k z λk=>cC k m call186 z (Qje fu _ _ (m.q Aa 3 z) ⟨187,[pt b9,pt Ay],z,call187,λw Eo El r e Ax hx=>by obtain ⟨_,Ax⟩:=Ax; have m:=m.step e; exact Qyx fu _ _ _ Ax (m.y Eb 1 z) (m.r Au) (m.y Aq 0 z) hx⟩ Dm) λEw e a k m=>ul 9 k z λk=>cJ h k z (λh=>?_) λh=>?_
     · refine gc 3 [bF m 0 Aq z] k z λk=>sB (cs:=[I Ad]) (ps:=[(0,.tmp 26)]) Qbe m k z (by exact fC z fN) λBd Fy Em a k m e Da=>?_;have Bi:=Qai Da ([Ad]:List Int) z z z;refine sB (cs:=[(.slice (some ⟨Bd,0,none⟩) 1 1)]) (ps:=[(0,.tmp 27)]) Qve m k z (by exact (List.forall_mem_cons.2 ⟨congrArg Array.size (Qid (Enc.ow_rd Bi)),fN⟩)) λGf Ev Fs a k m e Du=>oE h λDi Dr h=>?_;have Cg:=Enc.ow_agr Bi (m.a 1 z);have Bp:=News.box Du (m.a 0 z) (by simp) (m:=1);have Cj:=m.a 5 z;have m:=m.sl [5,1,0,2,3,4] z;have m:=m.join2;refine Qge (F:=Ac) (G:=[Bd]) Dr Qve z m Aa Cj Bp Cg (Agr.refl _ _) k z z z z z z λDe Dl Dv a k e m Dh=>ul 4 k z λk=>?_;exact ⟨_,_,_,_,k.p z,m.sl [3,4,0] z,Dh,h⟩
     refine Qg0 (Ac) Qgf m z λBy hMd=>?_;have m:=hMd;have s:=Ext.refl ((Ac):List Nat) By;refine dM [0,1,2,3] 4 z k z s λa k=>oE h λGl Ab h=>dT k 4 z z s (λw s=>Qci (Enc.ow_rd Aa) Ab k Q8o z z z) λa k=>?_;obtain ⟨Ga,Dq,Gb,Ef,Ep,Fq⟩:=Qaz (Enc.ow_rd Aa) (Qah Ab).2.2;obtain ⟨Fl,rfl⟩:∃ v,Dq=[v]:=by obtain ⟨_,_,hq,_⟩:=Ef; exact ⟨_,hq⟩
     refine dT k 6 z z s (λw s=>Qcc t13 (r:=[]) (Aq.at (hMd.az 0 3 z z z s) 0 1 z z z) k z z) λa k=>?_;obtain ⟨Gi,Do,Ff,Cx,Fi,Fv⟩:=Qaz (Enc.ow_rd Aa) (Qah Ab).2.2;obtain ⟨En,rfl⟩:∃ v,Do=[v]:=by obtain ⟨_,_,hq,_⟩:=Cx; exact ⟨_,hq⟩
     refine dG2 5 7 (by kernel_rfl) z z ?_ ?_ 
     · obtain ⟨Fb,Bm,Fj,Cq,Ba,Bu⟩:=Qaz (Enc.ow_rd Aa) (Qah Ab).2.2;obtain ⟨Gk,rfl⟩:∃ v,Bm=[v]:=by obtain ⟨_,_,hq,_⟩:=Cq; exact ⟨_,hq⟩
       refine gl 1 [pF (Ba.agr (m.a 3 z) Bu)] k z λk=>wpList_nil ⟨s,?_⟩;refine dG 7 z (Qbw (cs:=[I Ad]) (ps:=[(0,.tmp 36)]) Qbe m k z z z z z z z (by decide) z (by exact fC z fN) λCs Bz Ek a k m e Cp Dz=>?_);have Gd:=lo1 (Nat.le_trans s.size Dz);have Dx:=Qai Cp ([Ad]:List Int) z z z;refine ns s e λs=>dG 8 z ?_;obtain ⟨Ge,Fc,m,Dc,Dw,Bx,Bk⟩:=m.opnS 4 z Aa Ab Ba z (M':=[([Cs],Bz),([Ay],Be),([b9],At),(Ai,As)]) z;refine oE h λCd Eg h=>Qap Eg Qbe z m 1 Dw (News.rd (m.q Dx 2 z)) z z k z z z z z z z λBv Dk Fu a k e m Av Bo=>?_;have Ey:∀ y∈Dk,y∈(Ac)∨_≤y:=λy hy=>(Bo y hy).elim (λhy=>(λy hy=>(λy hy=>Or.inl hy) y (Bk y hy)) y hy) (λh=>Or.inr (Nat.le_trans s.size h));have s:=s.trans e (λy hy=>(λy hy=>Or.inl hy) y (Bk y hy));refine wpList_nil ⟨s,?_⟩;refine oE h λFe Ei h=>dT k 9 z z s (λw s=>Qci (Enc.ow_rd Aa) Ab k Q8o z z z) λa k=>dG 10 z (Qup (α:=List Int) (sz:=1) (cs':=[Bv]) sizeOf71 m 0 Dc 0 k (Qid (Enc.ow_rd Av)) (Qee (Enc.ow_rd Av)) z z z z z z z z z z λDb a k e m Ed=>?_);obtain ⟨Cn,m,Dp⟩:=(m.sl [0,1,2,3,4,5] z).cls Ed Av;have s:=s.trans e (λy hy=>(λy hy=>Or.inl hy) y (Bx y hy));refine wpList_nil ⟨s,?_⟩;refine dD ?_;refine (ue 2 k z λk=>?_);exact ⟨_,_,_,_,k.p z,m.sl [3,4,0] z,Dp,h⟩
     refine Qbw (cs:=[I Ad]) (ps:=[(0,.tmp 36)]) Qbe m k z z z z z z z (by decide) z (by exact fC z fN) λCa Cl Fk a k m e Dn Cv=>?_;have Gh:=lo1 (Nat.le_trans s.size Cv);have Dt:=Qai Dn ([Ad]:List Int) z z z;refine ns s e λs=>?_;obtain ⟨Fm,Bw,Fw,Cc,Gj,Fn⟩:=Qaz (Enc.ow_rd Aa) (Qah Ab).2.2;obtain ⟨Fh,rfl⟩:∃ v,Bw=[v]:=by obtain ⟨_,_,hq,_⟩:=Cc; exact ⟨_,hq⟩
     refine dG 5 z ?_;obtain ⟨Eh,Co,Fd,Bn,Bj,Ee⟩:=Qaz (Enc.ow_rd Aa) (Qah Ab).2.2;obtain ⟨Gg,rfl⟩:∃ v,Co=[v]:=by obtain ⟨_,_,hq,_⟩:=Bn; exact ⟨_,hq⟩
     refine gl 1 [pF (Bj.agr (m.a 4 z) Ee)] k z λk=>wpList_nil ⟨s,?_⟩;refine dG 8 z ?_;obtain ⟨Ez,Fz,m,Bs,Dj,Cz,Bl⟩:=m.opnS 4 z Aa Ab Bj z (M':=[([Ca],Cl),([Ay],Be),([b9],At),(Ai,As)]) z;refine oE h λBr Bt h=>Qap Bt Qbe z m 1 Dj (News.rd (m.q Dt 2 z)) z z k z z z z z z z λEa Ck Et a k e m Aw Ds=>?_;have Es:∀ y∈Ck,y∈(Ac)∨_≤y:=λy hy=>(Ds y hy).elim (λhy=>(λy hy=>(λy hy=>Or.inl hy) y (Bl y hy)) y hy) (λh=>Or.inr (Nat.le_trans s.size h));have s:=s.trans e (λy hy=>(λy hy=>Or.inl hy) y (Bl y hy));refine wpList_nil ⟨s,?_⟩;refine oE h λEj Fg h=>dT k 9 z z s (λw s=>Qci (Enc.ow_rd Aa) Ab k Q8o z z z) λa k=>dG 10 z (Qup (α:=List Int) (sz:=1) (cs':=[Ea]) sizeOf71 m 0 Bs 0 k (Qid (Enc.ow_rd Aw)) (Qee (Enc.ow_rd Aw)) z z z z z z z z z z λCe a k e m Cy=>?_);obtain ⟨Dg,m,Ct⟩:=(m.sl [0,1,2,3,4,5] z).cls Cy Aw;have s:=s.trans e (λy hy=>(λy hy=>Or.inl hy) y (Cz y hy));refine wpList_nil ⟨s,?_⟩;refine dD ?_;refine (ue 2 k z λk=>?_);exact ⟨_,_,_,_,k.p z,m.sl [3,4,0] z,Ct,h⟩
   refine uc 12 k z λk=>?_;cases h;exact Qbj k z (RV.tmp k z) ⟨_,Ac,z,m.ext,(m.v Aa 2 z),(m.fresh 2 z)⟩
 exact ⟨_,_,_,_,_,k.p z,m.sl [2,0,1] z,Df,h⟩
end Go.Proofs.YtndfoffokpdjeaaGreatDoor
