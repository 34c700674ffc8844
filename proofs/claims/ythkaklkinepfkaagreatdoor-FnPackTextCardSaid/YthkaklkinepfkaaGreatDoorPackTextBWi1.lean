/- FnPackText: the walk.. -/
import Derived.Test.YthkaklkinepfkaaGreatDoorPackTextBT
set_option maxRecDepth 20000
set_option linter.unusedSimpArgs false
set_option linter.unusedVariables false
set_option linter.unnecessarySimpa false
namespace Go.Proofs.YthkaklkinepfkaaGreatDoor
open Go Go.RowKit
open Enc (rd ow)
open Arg (argv)
open Ret (retv)
open Go.Proofs.Tryz
theorem Qti (fu) {w0} (Ab Ac) {r} (h:Qjd fu Ab Ac=some r):cL 36 [.string (Ab),.int .u8 (Ac)] w0 r:=by
 refine eg func36 z ntmps36 z λk m=>uc 7 k z λk=>sB Qyh m k z (by exact fN) λg3 w4 e6 a k m e As=>?_;have At:=Qai As ([]:List ByteArray) z z z;refine ul 15 k z λk=>lG (λn a w=>∃ Ae Ai Af Am Al Aa,K 35 [(0,.string (Ab)),(1,.int .u8 (Ac)),(5,Ai),(6,I Al),(7,I Aa)] a∧St [] w0 w [(Af,Am)]∧ow Am Af [Ai] Ae∧Qg9 fu Ab Ac n Ae Al Aa=some r) ?_ fu ?_
 · rintro Bf a Bv ⟨Ae,Ai,Af,Am,Al,Aa,k,m,Ao,h⟩;refine uc 5 k z λk=>sv k z (Q1l k underlying9 z z) λa k=>ul 3 k z λk=>cJ h k z (λh=>?_) λh=>?_
   · refine uc 2 k z λk=>cg (λa w=>∃ Ag Aj Ah Ak Ad,K 35 [(0,.string (Ab)),(1,.int .u8 (Ac)),(5,Aj),(6,I Ad),(7,I Aa)] a∧St [] w0 w [(Ah,Ak)]∧ow Ak Ah [Aj] Ag∧Qn7 fu (Qg9 fu Ab Ac Bf) Aa Ag Ad=some r) ?_ ?_
     · rintro a Br ⟨Ag,Aj,Ah,Ak,Ad,k,m,Ar,h⟩;refine uc 6 k z λk=>?_;exact ⟨_,_,_,_,_,_,k.p z,m.sl [0] z,Ar,h⟩
     refine oE h λBq Bm h=>uc 5 k z λk=>sv k z (Q8v Bm k underlying9 z z z) λa k=>ul 4 k z λk=>cJ h k z (λh=>?_) λh=>?_
     · refine oE h λAp Ba h=>uc 6 k z λk=>sv k z (Jgt Ba k underlying9 z z z z) λa k=>sB Qyh m k z (by exact fC z fN) λBp Bn Bu a k m e Bb=>?_;have Bi:=Qai Bb ([Ap]:List ByteArray) z z z;refine oE h λAx Be h=>Qcy Be Qyh z m 1 Ao (News.rd (m.q Bi 0 z)) z z k z z z z z z z λAz Au Av a k e m Bg=>ul 10 k z λk=>?_;exact ⟨_,_,_,_,_,k.p z,m.sl [1] z,Bg,h⟩
     refine uc 3 k z λk=>?_;exact ⟨_,_,_,_,_,k.p z,m.sl [0] z,Ao,h⟩
   refine oE h λAq Bd h=>uc 10 k z λk=>sv k z (Jjd Bd k underlying9 z z z) λa k=>sB Qyh m k z (by exact fC z fN) λBs Bw By a k m e Bl=>?_;have Ay:=Qai Bl ([Aq]:List ByteArray) z z z;refine oE h λBt Bh h=>Qcy Bh Qyh z m 1 Ao (News.rd (m.q Ay 0 z)) z z k z z z z z z z λBx Aw Bo a k e m Bc=>ul 4 k z λk=>?_;cases h;exact Qbj k z (RV.tmp k z) ⟨_,Aw,z,m.ext,(m.v Bc 1 z),(m.fresh 1 z)⟩
 exact ⟨_,_,_,_,_,_,k.p z,m.sl [0] z,At,h⟩
theorem Q0n (fu:Nat) {w0:World} (hT:Te Tryz.prog w0) (x1:ByteArray) {r:Int×Bool}
    (h:Qtt fu x1=some r) :
    Calls Tryz.prog 142 #[.string x1] w0 λe w=>∃ (v0:Value),e=.returned (.tuple #[I r.1,v0])∧Ext [] w0 w∧isErr v0 r.2 :=
  Jke (λs h1 v h2 w=>Tryz.strconv_Atoi_ok s h1 v h2 w) (λs h1 h2 h3 tp p w hv=>(Tryz.strconv_Atoi_syntax_var s h1 h2 h3 tp p w hv).mono λe w ⟨n,he,_,_,hb⟩=>⟨_,_,he,hb⟩) (λs h1 h2 tp p w hv=>(Tryz.strconv_Atoi_range_var s h1 h2 tp p w hv).mono λe w ⟨n,he,_,_,hb⟩=>⟨_,_,he,hb⟩) hT x1 h
theorem Qax (fu) {w0} (n1 Ab Ac) {r} (h:Qat fu n1 Ab Ac=some r):cS 68 [I n1,I Ab,I Ac] w0 (.bool (r)):=by
 refine eg func68 z ntmps68 z λk m=>uc 11 k z λk=>bS h k 10 z (λ_ h k=>?_) λ_ h k=>?_
 · refine ul 8 k z λk=>fS h k m z z
 refine ul 8 k z λk=>fS h k m z z
theorem Q03 (fu:Nat) {w0:World} (hT:Te Tryz.prog w0) (x1:Int) {r:ByteArray}
    (h:Qtl fu x1=some r) :
    Calls Tryz.prog 141 #[I x1] w0 λe w=>e=.returned (.string r)∧Ext [] w0 w :=
  Jj8 (λn h0 h1 w ht=>Tryz.strconv_Itoa n h0 h1 w ht) hT.t x1 h
theorem Qv6 (fu) {w0} (hT:Te Tryz.prog w0) (n1) {r} (h:Qn1 fu n1=some r):cS 77 [I n1] w0 (.string (r)):=by
 refine eg func77 z ntmps77 z λk m=>oE h λx2 Aa h=>uc 8 k z λk=>cC k m call141 z (Q03 fu (m.te hT) _  Aa) λw5 e a k m=>ul 4 k z λk=>fS h k m z z
theorem Q2g (fu) {w0} (hT:Te Tryz.prog w0) (Ac) {r} (h:Qik fu Ac=some r):cS 80 [.string (Ac)] w0 (.tuple #[I r.1,.bool (r.2)]):=by
 refine eg func80 z ntmps80 z λk m=>oE h λx2 Af h=>uc 9 k z λk=>sC k call142 z (Q0n fu (m.te hT) _  Af) λe4 w5 hR=>?_;obtain ⟨v6,rfl,e,Ad⟩:=hR;refine ⟨_,z,λa k=>?_⟩;have m:=m.step e;refine ul 7 k z λk=>cg (λa w=>K 25 [(4,I x2.1)] a∧St [] w0 w []∧Qrs fu x2=some r) ?_ ?_
 · rintro a Ak ⟨k,m,h⟩;refine uc 8 k z λk=>?_;cases h;exact Qdy k z (RV.tmp k z) (RV.tmp k z) ⟨z,m.ext⟩
 refine uc 3 k z λk=>sv k z (Jnq Ad k (by kernel_rfl) z z z) λa k=>pN 1 k z λa k=>bS h k 13 z (λ_ h k=>?_) λ_ h k=>?_
 · refine ul 21 k z λk=>?_;cases h;exact Qdy k z (RV.tmp k z) (RV.tmp k z) ⟨z,m.ext⟩
 refine pN 1 k z λa k=>oE h λAe Ag h=>cC k m call68 z (Qax fu _ _ _  Ag) λAl e a k m=>pN 3 k z λa k=>bS h k 18 z (λ_ h k=>?_) λ_ h k=>?_
 · refine ul 16 k z λk=>?_;cases h;exact Qdy k z (RV.tmp k z) (RV.tmp k z) ⟨z,m.ext⟩
 refine pN 1 k z λa k=>oE h λAj Ah h=>cC k m call77 z (Qv6 fu (m.te hT) _  Ah) λAm e a k m=>ul 5 k z λk=>cJ h k z (λh=>?_) λh=>?_
 · refine uc 8 k z λk=>?_;cases h;exact Qdy k z (RV.tmp k z) (RV.tmp k z) ⟨z,m.ext⟩
 refine uc 2 k z λk=>?_;exact ⟨k.p z,m.sl [] z,h⟩
theorem Qht (fu) {w0} (hT:Te Tryz.prog w0) (Aj Ae Ar) {r} (h:Qbo fu Aj Ae Ar=some r):Calls Tryz.prog 45 #[.string (Aj),.string (Ae),I Ar] w0 λe w=>∃ (v0:Value) (G0:List Nat),e=.returned (.tuple #[v0,.bool (r.2)])∧Ext [] w0 w∧ow w G0 [v0] r.1∧(∀ b∈G0,w0.heap.size≤b):=by
 refine eg (vs:=[_,_,_]) func45 z ntmps45 z λk m=>oE h λx4 Bc h=>uc 9 k z λk=>sL k m call36 z (Qti fu _ _  Bc) λw7 Ba F8 Aa k m=>ul 3 k z λk=>cg (λa w=>K 49 [(8,Ba)] a∧St [] w0 w [(F8,w7)]∧Qp9 fu x4=some r) ?_ ?_
 · rintro a Bn ⟨k,m,h⟩;refine uc 2 k z λk=>sB Qbf m k z (by exact fN) λAl Bh Bs a k m e Bi=>?_;have Av:=Qai Bi ([]:List Int) z z z;refine oE h λAk Bg h=>ul 7 k z λk=>Q3z Aa Bg k Jlj z z z z z z λAs a k Ag=>gl 5 [lF (Enc.ow_rd Ag)] k z λk=>lG (λn a w=>∃ Ai Af Ac Ah Ad,K 49 [(9,Af),(30,As),(31,I (Ak.length:Int)),(32,I Ad)] a∧St [] w0 w [(F8,w7),(Ac,Ah)]∧ow Ah Ac [Af] Ai∧Qfg fu Ak n Ai Ad=some r) ?_ fu ?_
   · rintro Br a Bo ⟨Ai,Af,Ac,Ah,Ad,k,m,Ao,h⟩;refine uc 6 k z λk=>cJ h k z (λh=>?_) λh=>?_
     · refine o2 h λBp Am Ap Bb h=>gc 14 [iF (Enc.ow_rd Ag) Am,eF (m.q Ag 0 z) Am 0] k z λk=>cC k m call80 z (Q2g fu (m.te hT) _  Bb) λBv e a k m=>ul 14 k z λk=>cJ h k z (λh=>?_) λh=>?_
       · refine uc 13 k z λk=>?_;cases h;exact Qdy k z (RV.tmp k z) (RV.tmp k z) ⟨_,[],z,m.ext,(Qaw _),(by simp)⟩
       refine uc 5 k z λk=>sB Qbf m k z (by exact fC z fN) λBt Bu Bq a k m e At=>?_;have Be:=Qai At ([Ap.1]:List Int) z z z;refine oE h λAw Bm h=>Qcy Bm Qbf z m 2 Ao (News.rd (m.q Be 0 z)) z z k z z z z z z z λAu Bk Bd a k e m Bl=>ul 9 k z λk=>?_;exact ⟨_,_,_,_,_,k.p z,m.sl [1,2] z,Bl,h⟩
     refine uc 13 k z λk=>?_;cases h;exact Qdy k z (RV.tmp k z) (RV.tmp k z) ⟨_,Ac,z,m.ext,(m.v Ao 1 z),(m.fresh 1 z)⟩
   exact ⟨_,_,_,_,_,k.p z,m.sl [1,0] z,Av,h⟩
 refine oE h λAz Aq h=>gc 8 [iF (Enc.ow_rd Aa) Aq,eF (m.q Aa 0 z) Aq 0] k z λk=>bS h k 21 z (λ_ h k=>?_) λ_ h k=>?_
 · refine ul 17 k z λk=>?_;cases h;exact Qdy k z (RV.tmp k z) (RV.tmp k z) ⟨_,[],z,m.ext,(Qaw _),(by simp)⟩
 refine gl 8 [lF (Enc.ow_rd Aa)] k z λk=>cJ h k z (λh=>?_) λh=>?_
 · refine uc 8 k z λk=>?_;cases h;exact Qdy k z (RV.tmp k z) (RV.tmp k z) ⟨_,[],z,m.ext,(Qaw _),(by simp)⟩
 refine uc 2 k z λk=>?_;exact ⟨k.p z,m.sl [0] z,h⟩
theorem Q00 (fu) {w0} (r1 Cs) {F2 b3} (Et:obx w0 F2 b3 r1 55) (hT:∀ w1,Ext F2 w0 w1→Te Tryz.prog w1) {r} (h:Qqh fu r1 Cs=some r):Calls Tryz.prog 92 #[.pointer (some ⟨b3,0,none⟩),.string (Cs)] w0 λe w=>∃ (H0:List Nat),e=.returned (I r.1)∧Ext F2 w0 w∧(∀ b∈H0,b∈F2∨w0.heap.size≤b)∧obx w H0 b3 r.2 55:=by
 refine eg (vs:=[_,_]) func92 z ntmps92 z λk _=>?_;obtain ⟨v6,F7,v9,Ad,Aj,Ae,Aa,Ah,Af,Ag,m⟩:=Et.start;refine uc 18 k z λk=>cJ h k z (λh=>?_) λh=>?_
 · refine uc 5 k z λk=>sT sizeOf3 m 0 Aa 0 k z z λHi a k e m Fs=>ul 10 k z λk=>?_;cases h;exact Qbj k z (RV.tmp k z) ⟨([b3]++(F7++(Ad++Ae))),z,m.ext,(λb hb=>(m.sl [0,1,2,3] z).lo b (by simpa [fps] using hb)),(obx.fin (x:=(⟨0,r1.fJ,r1.fG,r1.fR,r1.fU,r1.fT,r1.fV⟩:Request)) (m.y Fs 0 z) (m.v Ah 1 z) (m.v Af 2 z) (m.v Ag 3 z) (by simpa [fps] using (m.sl [0,1,2,3] z).nd))⟩
 refine uc 6 k z λk=>cJ h k z (λh=>?_) λh=>?_
 · refine uc 5 k z λk=>sT sizeOf3 m 0 Aa 0 k z z λIr a k e m Eh=>ul 10 k z λk=>?_;cases h;exact Qbj k z (RV.tmp k z) ⟨([b3]++(F7++(Ad++Ae))),z,m.ext,(λb hb=>(m.sl [0,1,2,3] z).lo b (by simpa [fps] using hb)),(obx.fin (x:=(⟨1,r1.fJ,r1.fG,r1.fR,r1.fU,r1.fT,r1.fV⟩:Request)) (m.y Eh 0 z) (m.v Ah 1 z) (m.v Af 2 z) (m.v Ag 3 z) (by simpa [fps] using (m.sl [0,1,2,3] z).nd))⟩
 refine oE h λHd Dm h=>uc 7 k z λk=>sC k call45 z (Qht fu (hT _ m.ext) _ _ _  Dm) λIu Gy hR=>?_;obtain ⟨He,Cx,rfl,e,Ai,Em⟩:=hR;refine ⟨_,z,λa k=>?_⟩;have m:=m.nw e Em Ai;refine ul 12 k z λk=>cJ h k z (λh=>?_) λh=>?_
 · refine uc 1 k z λk=>Qgu ([b3]) Qge m z λDz hMd=>?_;have m:=hMd;have s:=Ext.refl (([b3]):List Nat) Dz;refine dM [0,1,4,7,10] 5 z k z s λa k=>oE h λBm Br h=>dT k 2 z z s (λw s=>Qci (Enc.ow_rd Ai) Br k Qlz z z z) λa k=>dT k 3 z z s (λw s=>Qcq (Enc.ow_rd Ai) (hMd.az 0 1 z z z s) Br 0 t13 k z z z z) λa k=>oE h λBn Cj h=>dT k 5 z z s (λw s=>Qci (Enc.ow_rd Ai) Cj k Qlz z z z) λa k=>dT k 6 z z s (λw s=>Qcq (Enc.ow_rd Ai) (hMd.az 0 1 z z z s) Cj 0 t13 k z z z z) λa k=>oE h λBl Bs h=>dT k 8 z z s (λw s=>Qci (Enc.ow_rd Ai) Bs k Qlz z z z) λa k=>dT k 9 z z s (λw s=>Qcq (Enc.ow_rd Ai) (hMd.az 0 1 z z z s) Bs 0 t13 k z z z z) λa k=>oE h λBi Cn h=>dT k 11 z z s (λw s=>Qci (Enc.ow_rd Ai) Cn k Qlz z z z) λa k=>dT k 12 z z s (λw s=>Qcq (Enc.ow_rd Ai) (hMd.az 0 1 z z z s) Cn 0 t13 k z z z z) λa k=>dT k 13 z z s (λw s=>Qag Jla k (cs:=#[I Bm,I Bn,I Bl,I Bi]) (ps:=[(0,.tmp 37),(1,.tmp 40),(2,.tmp 43),(3,.tmp 46)]) z z (by kernel_rfl)) λa k=>dT k 14 z z s (λw s=>Qpi k z z) λa k=>?_;refine dF k 15 Q6w z s λa k=>dG 16 z (sT sizeOf50 m 1 Aa 1 k z z λHl a k e m Dj=>?_);have s:=s.trans e (λy hy=>Or.inl hy);refine wpList_nil ⟨s,?_⟩;refine dD ?_;refine (Qad ?_);refine uc 7 k z λk=>?_;cases h;exact Qbj k z (RV.tmp k z) ⟨([b3]++(F7++(Ad++Ae))),z,m.ext,(λb hb=>(m.sl [1,2,3,4] z).lo b (by simpa [fps] using hb)),(obx.fin (x:=(⟨r1.f0,(⟨Bm,Bn,Bl,Bi⟩:Pallet),r1.fG,r1.fR,r1.fU,r1.fT,r1.fV⟩:Request)) (m.y Dj 1 z) (m.v Ah 2 z) (m.v Af 3 z) (m.v Ag 4 z) (by simpa [fps] using (m.sl [1,2,3,4] z).nd))⟩
 refine oE h λHy Fm h=>uc 6 k z λk=>sC k call45 z (Qht fu (hT _ m.ext) _ _ _  Fm) λHh Id hR=>?_;obtain ⟨Ih,Eg,rfl,e,Bd,Ea⟩:=hR;refine ⟨_,z,λa k=>?_⟩;have m:=m.nw e Ea Bd;refine ul 12 k z λk=>cJ h k z (λh=>?_) λh=>?_
 · refine oE h λCi Cb h=>gc 8 [iF (Enc.ow_rd Bd) Cb,eF (m.q Bd 0 z) Cb 0] k z λk=>sT sizeOf3 m 2 Aa 5 k z z λGt a k e m Dt=>ul 9 k z λk=>?_;cases h;exact Qbj k z (RV.tmp k z) ⟨([b3]++(F7++(Ad++Ae))),z,m.ext,(λb hb=>(m.sl [2,3,4,5] z).lo b (by simpa [fps] using hb)),(obx.fin (x:=(⟨r1.f0,r1.fJ,Ci,r1.fR,r1.fU,r1.fT,r1.fV⟩:Request)) (m.y Dt 2 z) (m.v Ah 3 z) (m.v Af 4 z) (m.v Ag 5 z) (by simpa [fps] using (m.sl [2,3,4,5] z).nd))⟩
 refine oE h λIo Fj h=>uc 6 k z λk=>sC k call45 z (Qht fu (hT _ m.ext) _ _ _  Fj) λHj In hR=>?_;obtain ⟨Gq,Fi,rfl,e,Ak,Du⟩:=hR;refine ⟨_,z,λa k=>?_⟩;have m:=m.nw e Du Ak;refine ul 12 k z λk=>cJ h k z (λh=>?_) λh=>?_
 · refine uc 1 k z λk=>Qgu (F7++([b3])) Qge m z λEz hMd=>?_;have m:=hMd;have s:=Ext.refl ((F7++([b3])):List Nat) Ez;have hMj:=(hMd.sel [4,3,0,1,2,5,6] z (by decide)).join2;refine dM [0,1,5,8] 4 z k z s λa k=>dT k 2 z z s (λw s=>Qpi k z z) λa k=>dF k 3 Qta z s λa k=>oE h λAw Bx h=>dT k 6 z z s (λw s=>Qci (Enc.ow_rd Ak) Bx k Qlz z z z) λa k=>dT k 7 z z s (λw s=>Qcq (Enc.ow_rd Ak) (hMj.az 1 0 z z z s) Bx 0 t13 k z z z z) λa k=>oE h λAq By h=>dT k 9 z z s (λw s=>Qci (Enc.ow_rd Ak) By k Qlz z z z) λa k=>dT k 10 z z s (λw s=>Qcq (Enc.ow_rd Ak) (hMj.az 1 0 z z z s) By 0 t13 k z z z z) λa k=>dT k 11 z z s (λw s=>Qag Jgz k (cs:=#[I Aw,I Aq]) (ps:=[(0,.tmp 75),(1,.tmp 78)]) z z (by kernel_rfl)) λa k=>dG2 4 12 (by kernel_rfl) z z ?_ ?_
   · refine gl 1 [bF m 3 Aa z] k z λk=>wpList_nil ⟨s,?_⟩;refine dG 12 z (Qbw Q6e m k z z z z z z z (by decide) z (by exact fC z fN) λHx Gp Gm a k m e Es Fu=>?_);have Ii:=lo1 (Nat.le_trans s.size Fu);have Dx:=Qai Es ([(⟨Aw,Aq⟩:Pair)]:List Pair) z z z;refine ns s e λs=>dG 13 z (oE h λDe Fw h=>Qap Fw Q6e z m 5 Ah (News.rd (m.q Dx 0 z)) z z k z z z z z z z λFk Ca Ia a k e m Bf Cy=>?_);have Hg:∀ y∈Ca,y∈(F7++([b3]))∨_≤y:=λy hy=>(Cy y hy).elim (λhy=>(λy hy=>Or.inl (List.mem_append_left _ hy)) y hy) (λh=>Or.inr (Nat.le_trans s.size h));have s:=s.trans e (λy hy=>Or.inl (List.mem_append_left _ hy));refine wpList_nil ⟨s,?_⟩;refine dT k 14 z z s (λw s=>Qpi k z z) λa k=>dF k 15 Qta z s λa k=>dG 16 z (Qfi (cs':=(cR r1 Fk v9 Aj)) sizeOf51 m 4 Aa 6 k (Qid (Enc.ow_rd Bf)) (Qed (Enc.ow_rd Bf)) z z z z z z z z z λHf a k e m Fh=>?_);have s:=s.trans e (λy hy=>Or.inl (List.mem_append_right _ hy));refine wpList_nil ⟨s,?_⟩;refine dD ((Qad ?_));refine uc 7 k z λk=>?_;cases h;exact Qbj k z (RV.tmp k z) ⟨([b3]++(Ca++(Ad++Ae))),z,m.ext,(λb hb=>(m.sl [4,5,6,7] z).lo b (by simpa [fps] using hb)),(obx.fin (x:=(⟨r1.f0,r1.fJ,r1.fG,De,r1.fU,r1.fT,r1.fV⟩:Request)) (m.y Fh 4 z) (m.v Bf 5 z) (m.v Af 6 z) (m.v Ag 7 z) (by simpa [fps] using (m.sl [4,5,6,7] z).nd))⟩
   refine Qbw Q6e m k z z z z z z z (by decide) z (by exact fC z fN) λHw Iw Gg a k m e Fl Dk=>?_;have Ij:=lo1 (Nat.le_trans s.size Dk);have Ej:=Qai Fl ([(⟨Aw,Aq⟩:Pair)]:List Pair) z z z;refine ns s e λs=>dG 4 z (gl 1 [bF m 4 Aa z] k z λk=>wpList_nil ⟨s,?_⟩);refine dG 13 z (oE h λEp Dq h=>Qap Dq Q6e z m 5 Ah (News.rd (m.q Ej 0 z)) z z k z z z z z z z λDi Cm Hk a k e m Bh Fv=>?_);have Hn:∀ y∈Cm,y∈(F7++([b3]))∨_≤y:=λy hy=>(Fv y hy).elim (λhy=>(λy hy=>Or.inl (List.mem_append_left _ hy)) y hy) (λh=>Or.inr (Nat.le_trans s.size h));have s:=s.trans e (λy hy=>Or.inl (List.mem_append_left _ hy));refine wpList_nil ⟨s,?_⟩;refine dT k 14 z z s (λw s=>Qpi k z z) λa k=>dF k 15 Qta z s λa k=>dG 16 z (Qfi (cs':=(cR r1 Di v9 Aj)) sizeOf51 m 4 Aa 6 k (Qid (Enc.ow_rd Bh)) (Qed (Enc.ow_rd Bh)) z z z z z z z z z λIz a k e m Da=>?_);have s:=s.trans e (λy hy=>Or.inl (List.mem_append_right _ hy));refine wpList_nil ⟨s,?_⟩;refine dD ((Qad ?_));refine uc 7 k z λk=>?_;cases h;exact Qbj k z (RV.tmp k z) ⟨([b3]++(Cm++(Ad++Ae))),z,m.ext,(λb hb=>(m.sl [4,5,6,7] z).lo b (by simpa [fps] using hb)),(obx.fin (x:=(⟨r1.f0,r1.fJ,r1.fG,Ep,r1.fU,r1.fT,r1.fV⟩:Request)) (m.y Da 4 z) (m.v Bh 5 z) (m.v Af 6 z) (m.v Ag 7 z) (by simpa [fps] using (m.sl [4,5,6,7] z).nd))⟩
 refine oE h λHq Dr h=>uc 6 k z λk=>sC k call45 z (Qht fu (hT _ m.ext) _ _ _  Dr) λGr Gz hR=>?_;obtain ⟨Gx,Ev,rfl,e,Ac,Fg⟩:=hR;refine ⟨_,z,λa k=>?_⟩;have m:=m.nw e Fg Ac;refine ul 12 k z λk=>cJ h k z (λh=>?_) λh=>?_
 · refine uc 1 k z λk=>Qgu (Ad++([b3])) Qge m z λDf hMd=>?_;have m:=hMd;have s:=Ext.refl ((Ad++([b3])):List Nat) Df;have hMj:=(hMd.sel [6,4,0,1,2,3,5,7] z (by decide)).join2;refine dM [0,1,5,8,11,14,17,20,23] 9 z k z s λa k=>dT k 2 z z s (λw s=>Qpi k z z) λa k=>dF k 3 Qif z s λa k=>oE h λAl Ct h=>dT k 6 z z s (λw s=>Qci (Enc.ow_rd Ac) Ct k Qlz z z z) λa k=>dT k 7 z z s (λw s=>Qcq (Enc.ow_rd Ac) (hMj.az 1 0 z z z s) Ct 0 t13 k z z z z) λa k=>oE h λAp Bu h=>dT k 9 z z s (λw s=>Qci (Enc.ow_rd Ac) Bu k Qlz z z z) λa k=>dT k 10 z z s (λw s=>Qcq (Enc.ow_rd Ac) (hMj.az 1 0 z z z s) Bu 0 t13 k z z z z) λa k=>oE h λAv Bq h=>dT k 12 z z s (λw s=>Qci (Enc.ow_rd Ac) Bq k Qlz z z z) λa k=>dT k 13 z z s (λw s=>Qcq (Enc.ow_rd Ac) (hMj.az 1 0 z z z s) Bq 0 t13 k z z z z) λa k=>oE h λAu Cr h=>dT k 15 z z s (λw s=>Qci (Enc.ow_rd Ac) Cr k Qlz z z z) λa k=>dT k 16 z z s (λw s=>Qcq (Enc.ow_rd Ac) (hMj.az 1 0 z z z s) Cr 0 t13 k z z z z) λa k=>oE h λAz Cl h=>?_;refine dT k 18 z z s (λw s=>Qci (Enc.ow_rd Ac) Cl k Qlz z z z) λa k=>dT k 19 z z s (λw s=>Qcq (Enc.ow_rd Ac) (hMj.az 1 0 z z z s) Cl 0 t13 k z z z z) λa k=>oE h λBa Ce h=>dT k 21 z z s (λw s=>Qci (Enc.ow_rd Ac) Ce k Qlz z z z) λa k=>dT k 22 z z s (λw s=>Qcq (Enc.ow_rd Ac) (hMj.az 1 0 z z z s) Ce 0 t13 k z z z z) λa k=>oE h λAy Cg h=>dT k 24 z z s (λw s=>Qci (Enc.ow_rd Ac) Cg k Qlz z z z) λa k=>dT k 25 z z s (λw s=>Qcq (Enc.ow_rd Ac) (hMj.az 1 0 z z z s) Cg 0 t13 k z z z z) λa k=>dT k 26 z z s (λw s=>Qag Q47 k (cs:=#[I Al,I Ap,I Av,I Au,I Az,I Ba,I Ay]) (ps:=[(0,.tmp 97),(1,.tmp 100),(2,.tmp 103),(3,.tmp 106),(4,.tmp 109),(5,.tmp 112),(6,.tmp 115)]) z z (by kernel_rfl)) λa k=>dG2 4 27 (by kernel_rfl) z z ?_ ?_
   · refine gl 1 [bF m 4 Aa z] k z λk=>wpList_nil ⟨s,?_⟩;refine dG 27 z (Qbw Qva m k z z z z z z z (by decide) z (by exact fC z fN) λHz Iq Gh a k m e Ff Cw=>?_);have Gf:=lo1 (Nat.le_trans s.size Cw);have Fc:=Qai Ff ([(⟨Al,Ap,Av,Au,Az,Ba,Ay⟩:Typ)]:List Typ) z z z;refine ns s e λs=>dG 28 z (oE h λGd Fe h=>Qap Fe Qva z m 7 Af (News.rd (m.q Fc 0 z)) z z k z z z z z z z λDs Cd Ip a k e m Bg Ew=>?_);have Hp:∀ y∈Cd,y∈(Ad++([b3]))∨_≤y:=λy hy=>(Ew y hy).elim (λhy=>(λy hy=>Or.inl (List.mem_append_left _ hy)) y hy) (λh=>Or.inr (Nat.le_trans s.size h));have s:=s.trans e (λy hy=>Or.inl (List.mem_append_left _ hy));refine wpList_nil ⟨s,?_⟩;refine dT k 29 z z s (λw s=>Qpi k z z) λa k=>dF k 30 Qif z s λa k=>dG 31 z (Qfi (cs':=(cR r1 v6 Ds Aj)) sizeOf52 m 5 Aa 7 k (Qid (Enc.ow_rd Bg)) (Qed (Enc.ow_rd Bg)) z z z z z z z z z λGn a k e m En=>?_);have s:=s.trans e (λy hy=>Or.inl (List.mem_append_right _ hy));refine wpList_nil ⟨s,?_⟩;refine dD ?_;refine (Qad ?_);refine uc 7 k z λk=>?_;cases h;exact Qbj k z (RV.tmp k z) ⟨([b3]++(F7++(Cd++Ae))),z,m.ext,(λb hb=>(m.sl [5,6,7,8] z).lo b (by simpa [fps] using hb)),(obx.fin (x:=(⟨r1.f0,r1.fJ,r1.fG,r1.fR,Gd,r1.fT,r1.fV⟩:Request)) (m.y En 5 z) (m.v Ah 6 z) (m.v Bg 7 z) (m.v Ag 8 z) (by simpa [fps] using (m.sl [5,6,7,8] z).nd))⟩
   refine Qbw Qva m k z z z z z z z (by decide) z (by exact fC z fN) λHc Hr Ie a k m e Dl Eu=>?_;have Ib:=lo1 (Nat.le_trans s.size Eu);have Db:=Qai Dl ([(⟨Al,Ap,Av,Au,Az,Ba,Ay⟩:Typ)]:List Typ) z z z;refine ns s e λs=>dG 4 z (gl 1 [bF m 5 Aa z] k z λk=>wpList_nil ⟨s,?_⟩);refine dG 28 z (oE h λEd Ee h=>Qap Ee Qva z m 7 Af (News.rd (m.q Db 0 z)) z z k z z z z z z z λEl Bw Gi a k e m Bj Fq=>?_);have Ht:∀ y∈Bw,y∈(Ad++([b3]))∨_≤y:=λy hy=>(Fq y hy).elim (λhy=>(λy hy=>Or.inl (List.mem_append_left _ hy)) y hy) (λh=>Or.inr (Nat.le_trans s.size h));have s:=s.trans e (λy hy=>Or.inl (List.mem_append_left _ hy));refine wpList_nil ⟨s,?_⟩;refine dT k 29 z z s (λw s=>Qpi k z z) λa k=>dF k 30 Qif z s λa k=>dG 31 z (Qfi (cs':=(cR r1 v6 El Aj)) sizeOf52 m 5 Aa 7 k (Qid (Enc.ow_rd Bj)) (Qed (Enc.ow_rd Bj)) z z z z z z z z z λIm a k e m Ei=>?_);have s:=s.trans e (λy hy=>Or.inl (List.mem_append_right _ hy));refine wpList_nil ⟨s,?_⟩;refine dD ?_;refine (Qad ?_);refine uc 7 k z λk=>?_;cases h;exact Qbj k z (RV.tmp k z) ⟨([b3]++(F7++(Bw++Ae))),z,m.ext,(λb hb=>(m.sl [5,6,7,8] z).lo b (by simpa [fps] using hb)),(obx.fin (x:=(⟨r1.f0,r1.fJ,r1.fG,r1.fR,Ed,r1.fT,r1.fV⟩:Request)) (m.y Ei 5 z) (m.v Ah 6 z) (m.v Bj 7 z) (m.v Ag 8 z) (by simpa [fps] using (m.sl [5,6,7,8] z).nd))⟩
 refine oE h λHv Gb h=>uc 6 k z λk=>sC k call45 z (Qht fu (hT _ m.ext) _ _ _  Gb) λGe Hb hR=>?_;obtain ⟨Gl,Dv,rfl,e,Bc,Fd⟩:=hR;refine ⟨_,z,λa k=>?_⟩;have m:=m.nw e Fd Bc;refine ul 12 k z λk=>cJ h k z (λh=>?_) λh=>?_
 · refine oE h λCc Bz h=>gc 8 [iF (Enc.ow_rd Bc) Bz,eF (m.q Bc 0 z) Bz 0] k z λk=>sT sizeOf3 m 5 Aa 8 k z z λIc a k e m Ec=>ul 9 k z λk=>?_;cases h;exact Qbj k z (RV.tmp k z) ⟨([b3]++(F7++(Ad++Ae))),z,m.ext,(λb hb=>(m.sl [5,6,7,8] z).lo b (by simpa [fps] using hb)),(obx.fin (x:=(⟨r1.f0,r1.fJ,r1.fG,r1.fR,r1.fU,Cc,r1.fV⟩:Request)) (m.y Ec 5 z) (m.v Ah 6 z) (m.v Af 7 z) (m.v Ag 8 z) (by simpa [fps] using (m.sl [5,6,7,8] z).nd))⟩
 refine oE h λGv Cz h=>uc 6 k z λk=>sC k call45 z (Qht fu (hT _ m.ext) _ _ _  Cz) λHm Ha hR=>?_;obtain ⟨Ix,Fa,rfl,e,Ab,Fb⟩:=hR;refine ⟨_,z,λa k=>?_⟩;have m:=m.nw e Fb Ab;refine ul 12 k z λk=>cJ h k z (λh=>?_) λh=>?_
 · refine uc 1 k z λk=>Qgu (Ae++([b3])) Qge m z λEk hMd=>?_;have m:=hMd;have s:=Ext.refl ((Ae++([b3])):List Nat) Ek;have hMj:=(hMd.sel [9,6,0,1,2,3,4,5,7,8] z (by decide)).join2;refine dM [0,1,5,8,11,14,17,20,23] 9 z k z s λa k=>dT k 2 z z s (λw s=>Qpi k z z) λa k=>dF k 3 Quq z s λa k=>oE h λAx Cq h=>dT k 6 z z s (λw s=>Qci (Enc.ow_rd Ab) Cq k Qlz z z z) λa k=>dT k 7 z z s (λw s=>Qcq (Enc.ow_rd Ab) (hMj.az 1 0 z z z s) Cq 0 t13 k z z z z) λa k=>oE h λAm Bt h=>dT k 9 z z s (λw s=>Qci (Enc.ow_rd Ab) Bt k Qlz z z z) λa k=>dT k 10 z z s (λw s=>Qcq (Enc.ow_rd Ab) (hMj.az 1 0 z z z s) Bt 0 t13 k z z z z) λa k=>oE h λBb Bp h=>dT k 12 z z s (λw s=>Qci (Enc.ow_rd Ab) Bp k Qlz z z z) λa k=>dT k 13 z z s (λw s=>Qcq (Enc.ow_rd Ab) (hMj.az 1 0 z z z s) Bp 0 t13 k z z z z) λa k=>oE h λAt Ch h=>dT k 15 z z s (λw s=>Qci (Enc.ow_rd Ab) Ch k Qlz z z z) λa k=>dT k 16 z z s (λw s=>Qcq (Enc.ow_rd Ab) (hMj.az 1 0 z z z s) Ch 0 t13 k z z z z) λa k=>oE h λAr Bv h=>?_;refine dT k 18 z z s (λw s=>Qci (Enc.ow_rd Ab) Bv k Qlz z z z) λa k=>dT k 19 z z s (λw s=>Qcq (Enc.ow_rd Ab) (hMj.az 1 0 z z z s) Bv 0 t13 k z z z z) λa k=>oE h λAo Cp h=>dT k 21 z z s (λw s=>Qci (Enc.ow_rd Ab) Cp k Qlz z z z) λa k=>dT k 22 z z s (λw s=>Qcq (Enc.ow_rd Ab) (hMj.az 1 0 z z z s) Cp 0 t13 k z z z z) λa k=>oE h λAs Ck h=>dT k 24 z z s (λw s=>Qci (Enc.ow_rd Ab) Ck k Qlz z z z) λa k=>dT k 25 z z s (λw s=>Qcq (Enc.ow_rd Ab) (hMj.az 1 0 z z z s) Ck 0 t13 k z z z z) λa k=>dT k 26 z z s (λw s=>Qag Q8p k (cs:=#[I Ax,I Am,I Bb,I At,I Ar,I Ao,I As]) (ps:=[(0,.tmp 146),(1,.tmp 149),(2,.tmp 152),(3,.tmp 155),(4,.tmp 158),(5,.tmp 161),(6,.tmp 164)]) z z (by kernel_rfl)) λa k=>dG2 4 27 (by kernel_rfl) z z ?_ ?_
   · refine gl 1 [bF m 6 Aa z] k z λk=>wpList_nil ⟨s,?_⟩;refine dG 27 z (Qbw Q3y m k z z z z z z z (by decide) z (by exact fC z fN) λIv Iy Is a k m e Cv Dg=>?_);have If:=lo1 (Nat.le_trans s.size Dg);have Fp:=Qai Cv ([(⟨Ax,Am,Bb,At,Ar,Ao,As⟩:Item)]:List Item) z z z;refine ns s e λs=>dG 28 z (oE h λDc Dd h=>Qap Dd Q3y z m 10 Ag (News.rd (m.q Fp 0 z)) z z k z z z z z z z λDn Bo Gk a k e m Be Dh=>?_);have Gw:∀ y∈Bo,y∈(Ae++([b3]))∨_≤y:=λy hy=>(Dh y hy).elim (λhy=>(λy hy=>Or.inl (List.mem_append_left _ hy)) y hy) (λh=>Or.inr (Nat.le_trans s.size h));have s:=s.trans e (λy hy=>Or.inl (List.mem_append_left _ hy));refine wpList_nil ⟨s,?_⟩;refine dT k 29 z z s (λw s=>Qpi k z z) λa k=>dF k 30 Quq z s λa k=>dG 31 z (Qfi (cs':=(cR r1 v6 v9 Dn)) sizeOf53 m 7 Aa 9 k (Qid (Enc.ow_rd Be)) (Qed (Enc.ow_rd Be)) z z z z z z z z z λHo a k e m Ga=>?_);have s:=s.trans e (λy hy=>Or.inl (List.mem_append_right _ hy));refine wpList_nil ⟨s,?_⟩;refine dD ?_;refine (Qad ?_);refine uc 7 k z λk=>?_;cases h;exact Qbj k z (RV.tmp k z) ⟨([b3]++(F7++(Ad++Bo))),z,m.ext,(λb hb=>(m.sl [7,8,9,10] z).lo b (by simpa [fps] using hb)),(obx.fin (x:=(⟨r1.f0,r1.fJ,r1.fG,r1.fR,r1.fU,r1.fT,Dc⟩:Request)) (m.y Ga 7 z) (m.v Ah 8 z) (m.v Af 9 z) (m.v Be 10 z) (by simpa [fps] using (m.sl [7,8,9,10] z).nd))⟩
   refine Qbw Q3y m k z z z z z z z (by decide) z (by exact fC z fN) λIk Il Gu a k m e Er Dp=>?_;have Hu:=lo1 (Nat.le_trans s.size Dp);have Do:=Qai Er ([(⟨Ax,Am,Bb,At,Ar,Ao,As⟩:Item)]:List Item) z z z;refine ns s e λs=>dG 4 z (gl 1 [bF m 7 Aa z] k z λk=>wpList_nil ⟨s,?_⟩);refine dG 28 z (oE h λFy Cu h=>Qap Cu Q3y z m 10 Ag (News.rd (m.q Do 0 z)) z z k z z z z z z z λEo Co It a k e m Bk Fn=>?_);have Gj:∀ y∈Co,y∈(Ae++([b3]))∨_≤y:=λy hy=>(Fn y hy).elim (λhy=>(λy hy=>Or.inl (List.mem_append_left _ hy)) y hy) (λh=>Or.inr (Nat.le_trans s.size h));have s:=s.trans e (λy hy=>Or.inl (List.mem_append_left _ hy));refine wpList_nil ⟨s,?_⟩;refine dT k 29 z z s (λw s=>Qpi k z z) λa k=>dF k 30 Quq z s λa k=>dG 31 z (Qfi (cs':=(cR r1 v6 v9 Eo)) sizeOf53 m 7 Aa 9 k (Qid (Enc.ow_rd Bk)) (Qed (Enc.ow_rd Bk)) z z z z z z z z z λIg a k e m Fz=>?_);have s:=s.trans e (λy hy=>Or.inl (List.mem_append_right _ hy));refine wpList_nil ⟨s,?_⟩;refine dD ?_;refine (Qad ?_);refine uc 7 k z λk=>?_;cases h;exact Qbj k z (RV.tmp k z) ⟨([b3]++(F7++(Ad++Co))),z,m.ext,(λb hb=>(m.sl [7,8,9,10] z).lo b (by simpa [fps] using hb)),(obx.fin (x:=(⟨r1.f0,r1.fJ,r1.fG,r1.fR,r1.fU,r1.fT,Fy⟩:Request)) (m.y Fz 7 z) (m.v Ah 8 z) (m.v Af 9 z) (m.v Bk 10 z) (by simpa [fps] using (m.sl [7,8,9,10] z).nd))⟩
 refine uc 8 k z λk=>?_;cases h;exact Qbj k z (RV.tmp k z) ⟨([b3]++(F7++(Ad++Ae))),z,m.ext,(λb hb=>(m.sl [6,7,8,9] z).lo b (by simpa [fps] using hb)),(obx.fin (x:=r1) (m.y Aa 6 z) (m.v Ah 7 z) (m.v Af 8 z) (m.v Ag 9 z) (by simpa [fps] using (m.sl [6,7,8,9] z).nd))⟩
theorem Qxv (fu) {w0} (Aa Ah) {r} (h:Ql2 fu Aa Ah=some r):cS 93 [I Aa,I Ah] w0 (.bool (r)):=by
 refine eg func93 z ntmps93 z λk m=>uc 5 k z λk=>cg (λa w=>K 38 [] a∧St [] w0 w []∧Qg7 fu=some r) ?_ ?_
 · rintro a Bh ⟨k,m,h⟩;refine uc 6 k z λk=>fS h k m z z
 refine uc 13 k z λk=>cJ h k z (λh=>?_) λh=>?_
 · refine uc 2 k z λk=>cJ h k z (λh=>?_) λh=>?_
   · refine uc 12 k z λk=>fS h k m z z
   refine uc 6 k z λk=>cJ h k z (λh=>?_) λh=>?_
   · refine uc 5 k z λk=>bS h k 18 z (λ_ h k=>?_) λ_ h k=>?_
     · refine ul 9 k z λk=>fS h k m z z
     refine ul 9 k z λk=>fS h k m z z
   refine uc 6 k z λk=>cJ h k z (λh=>?_) λh=>?_
   · refine oE h λBk Ay h=>uc 3 k z λk=>cC k m call68 z (Qax fu _ _ _  Ay) λBn e a k m=>ul 6 k z λk=>fS h k m z z
   refine uc 6 k z λk=>cJ h k z (λh=>?_) λh=>?_
   · refine oE h λBl At h=>uc 3 k z λk=>cC k m call68 z (Qax fu _ _ _  At) λBr e a k m=>ul 6 k z λk=>fS h k m z z
   refine uc 6 k z λk=>cJ h k z (λh=>?_) λh=>?_
   · refine uc 5 k z λk=>bS h k 34 z (λ_ h k=>?_) λ_ h k=>?_
     · refine ul 9 k z λk=>fS h k m z z
     refine ul 9 k z λk=>fS h k m z z
   refine uc 3 k z λk=>?_;exact ⟨k.p z,m.sl [] z,h⟩
 refine uc 6 k z λk=>cJ h k z (λh=>?_) λh=>?_
 · refine uc 2 k z λk=>cJ h k z (λh=>?_) λh=>?_
   · refine uc 12 k z λk=>fS h k m z z
   refine uc 6 k z λk=>cJ h k z (λh=>?_) λh=>?_
   · refine uc 5 k z λk=>bS h k 18 z (λ_ h k=>?_) λ_ h k=>?_
     · refine ul 9 k z λk=>fS h k m z z
     refine ul 9 k z λk=>fS h k m z z
   refine uc 6 k z λk=>cJ h k z (λh=>?_) λh=>?_
   · refine oE h λBq Av h=>uc 3 k z λk=>cC k m call68 z (Qax fu _ _ _  Av) λBj e a k m=>ul 6 k z λk=>fS h k m z z
   refine uc 6 k z λk=>cJ h k z (λh=>?_) λh=>?_
   · refine oE h λBi Am h=>uc 3 k z λk=>cC k m call68 z (Qax fu _ _ _  Am) λBs e a k m=>ul 6 k z λk=>fS h k m z z
   refine uc 6 k z λk=>cJ h k z (λh=>?_) λh=>?_
   · refine uc 5 k z λk=>bS h k 34 z (λ_ h k=>?_) λ_ h k=>?_
     · refine ul 9 k z λk=>fS h k m z z
     refine ul 9 k z λk=>fS h k m z z
   refine uc 3 k z λk=>?_;exact ⟨k.p z,m.sl [] z,h⟩
 refine uc 5 k z λk=>cJ h k z (λh=>?_) λh=>?_
 · refine uc 12 k z λk=>fS h k m z z
 refine uc 6 k z λk=>cJ h k z (λh=>?_) λh=>?_
 · refine uc 5 k z λk=>bS h k 18 z (λ_ h k=>?_) λ_ h k=>?_
   · refine ul 9 k z λk=>fS h k m z z
   refine ul 9 k z λk=>fS h k m z z
 refine uc 6 k z λk=>cJ h k z (λh=>?_) λh=>?_
 · refine oE h λBp Be h=>uc 3 k z λk=>cC k m call68 z (Qax fu _ _ _  Be) λBg e a k m=>ul 6 k z λk=>fS h k m z z
 refine uc 6 k z λk=>cJ h k z (λh=>?_) λh=>?_
 · refine oE h λBo Ar h=>uc 3 k z λk=>cC k m call68 z (Qax fu _ _ _  Ar) λBm e a k m=>ul 6 k z λk=>fS h k m z z
 refine uc 6 k z λk=>cJ h k z (λh=>?_) λh=>?_
 · refine uc 5 k z λk=>bS h k 34 z (λ_ h k=>?_) λ_ h k=>?_
   · refine ul 9 k z λk=>fS h k m z z
   refine ul 9 k z λk=>fS h k m z z
 refine uc 3 k z λk=>?_;exact ⟨k.p z,m.sl [] z,h⟩
theorem Qul (fu) {w0} (hT:Te Tryz.prog w0) (Bl) {r} (h:Qis fu Bl=some r):Calls Tryz.prog 51 #[.string (Bl)] w0 λe w=>∃ (Bk:List Value) (G0:List Nat),e=.returned (.tuple #[.agg Bk.toArray,I r.2])∧Ext [] w0 w∧ow w G0 Bk r.1∧(∀ b∈G0,w0.heap.size≤b):=by
 refine eg (vs:=[_]) func51 z ntmps51 z λk m=>uc 2 k z λk=>Qaj m k zeroValue55 z z z z z λb2 w4 a k m e Al=>oE h λx5 Bz h=>ul 6 k z λk=>sL k m call36 z (Qti fu _ _  Bz) λw9 Cj Bi Ad k m=>gl 18 [lF (Enc.ow_rd Ad)] k z λk=>cJ h k z (λh=>?_) λh=>?_
 · refine uc 2 k z λk=>sv k z (Qag Q55 k (cs:=#[I 0,I 0,I 0,I 0,I 0,I 0,.slice none 0 0,.slice none 0 0,I 0,.slice none 0 0]) (ps:=[]) z z (by kernel_rfl)) λa k=>sT sizeOf55 m 1 Al 0 k z z λDa a k e m Cx=>ul 5 k z λk=>?_;cases h;exact Qdy k z (RV.cA k z Qyf (Cx.at (m.a 1 z) 0 10 z z z) z) (RV.tmp k z) ⟨_,_,z,m.ext,⟨_,[],_,[],_,[],z,z,(Qaw _),(Qaw _),(Qaw _),by simpa [fps] using (m.sl [] z).nd⟩,(Qa0 (by simp) (Qa0 (by simp) (by simp)))⟩
 refine uc 4 k z λk=>sv k z (Qag Q55 k (cs:=#[I 0,I 0,I 0,I 0,I 0,I 0,.slice none 0 0,.slice none 0 0,I 0,.slice none 0 0]) (ps:=[]) z z (by kernel_rfl)) λa k=>Qaj m k zeroValue55 z z z z z λAy Dl a k m e Cq=>sT sizeOf55 m 0 Cq 0 k z z λBs a k e m Bp=>oE h λBn Cl h=>ul 12 k z λk=>Q1y (Enc.ow_rd Ad) Cl k Jlj z z z z z z λCn a k Be=>gl 5 [lF Be] k z λk=>lG (λn a w=>∃ Ae Af Ag Ai Ac Ab Ao Aq Ax Bd Am As Av Bg Ah Aj Ap Aw Az Bb At Au,K 51 [(2,pt b2),(4,Cj),(5,I (w64 ((x5.length:Int) - 1))),(6,pt Ay),(7,I At),(22,Cn),(23,I (Bn.length:Int)),(24,I Au)] a∧St [] w0 w [([b2],w4),(Ax,Bd),(Av,Bg),(Aw,Az),([Ay],Bb),(Bi,w9)]∧ow Bd Ax [Aq] Ao∧ow Bg Av [As] Am∧ow Az Aw [Ap] Aj∧bx Bb Ay [I Ae,I Af,I Ag,I Ai,I Ac,I Ab,Aq,As,I Ah,Ap] 55∧Qe9 fu x5 Bn n Ae Af Ag Ai Ac Ab Ao Am Ah Aj At Au=some r) ?_ fu ?_
 · rintro Dg a Dm ⟨Ae,Af,Ag,Ai,Ac,Ab,Ao,Aq,Ax,Bd,Am,As,Av,Bg,Ah,Aj,Ap,Aw,Az,Bb,At,Au,k,m,Bh,Bf,Ba,Bm,h⟩;refine uc 6 k z λk=>cJ h k z (λh=>?_) λh=>?_
   · refine oE h λDi Bj h=>gc 16 [iF Be Bj,eF (Enc.rd_agr Be (m.a 5 z)) Bj 0] k z λk=>?_;have Cu:=Enc.ow_agr Bh (m.a 1 z);have Bw:=Enc.ow_agr Bf (m.a 2 z);have Cc:=Enc.ow_agr Ba (m.a 3 z);have Bu:=Bm.agr (m.a 4 z) (by simp);have m:=(m.sl [4,1,2,3,0,5] z).joinq;have Bx:=obx.fin (x:=(⟨Ae,(⟨Af,Ag,Ai,Ac⟩:Pallet),Ab,Ao,Am,Ah,Aj⟩:Request)) Bu Cu Bw Cc (m.ndF 0 z);refine oE h λAa Ch h=>sC k call92 z (Q00 fu (((⟨Ae,(⟨Af,Ag,Ai,Ac⟩:Pallet),Ab,Ao,Am,Ah,Aj⟩:Request)):Request) _ Bx (m.te2 hT 0 z) Ch) λCz Ar hR=>?_;obtain ⟨Db,rfl,e,Ca,Bc⟩:=hR;refine ⟨_,z,λa k=>?_⟩;have m:=m.mut 0 z e _ (λb hb=>⟨Ca b hb,Bc.lt b hb⟩) Bc.nd;obtain ⟨Cy,Bv,Cv,Cb,Cg,Cd,By,rfl,Ct,Cp,Ce,_⟩:=Bc;have m:=m.split4;refine oE h λDf Cr h=>ul 8 k z λk=>cC k m call93 z (Qxv fu _ _  Cr) λDd e a k m=>ul 3 k z λk=>cJ h k z (λh=>?_) λh=>?_
     · refine uc 2 k z λk=>sv k z (Qag Q55 k (cs:=#[I 0,I 0,I 0,I 0,I 0,I 0,.slice none 0 0,.slice none 0 0,I 0,.slice none 0 0]) (ps:=[]) z z (by kernel_rfl)) λa k=>pN 1 k z λa k=>sT sizeOf55 m 4 Al 0 k z z λDc a k e m Bq=>ul 10 k z λk=>?_;cases h;exact Qdy k z (RV.cA k z Qyf (Bq.at (m.a 4 z) 0 10 z z z) z) (RV.tmp k z) ⟨_,_,z,m.ext,⟨_,[],_,[],_,[],z,z,(Qaw _),(Qaw _),(Qaw _),by simpa [fps] using (m.sl [] z).nd⟩,(Qa0 (by simp) (Qa0 (by simp) (by simp)))⟩
     refine uc 13 k z λk=>?_;exact ⟨_,_,_,_,_,_,_,_,_,_,_,_,_,_,_,_,_,_,_,_,_,_,k.p z,m.sl [4,1,2,3,0,5] z,Ct,Cp,Ce,By,h⟩
   refine uc 11 k z λk=>bS h k 41 z (λ_ h k=>?_) λ_ h k=>?_
   · refine ul 11 k z λk=>sv k z (Qag Q55 k (cs:=#[I 0,I 0,I 0,I 0,I 0,I 0,.slice none 0 0,.slice none 0 0,I 0,.slice none 0 0]) (ps:=[]) z z (by kernel_rfl)) λa k=>pN 1 k z λa k=>sT sizeOf55 m 0 Al 0 k z z λDj a k e m Ci=>ul 5 k z λk=>?_;cases h;exact Qdy k z (RV.cA k z Qyf (Ci.at (m.a 0 z) 0 10 z z z) z) (RV.tmp k z) ⟨_,_,z,m.ext,⟨_,[],_,[],_,[],z,z,(Qaw _),(Qaw _),(Qaw _),by simpa [fps] using (m.sl [] z).nd⟩,(Qa0 (by simp) (Qa0 (by simp) (by simp)))⟩
   refine oE h λDh Bo h=>gl 8 [iF (Enc.ow_rd Ad) Bo,eF (m.q Ad 5 z) Bo 0] k z λk=>cJ h k z (λh=>?_) λh=>?_
   · refine uc 2 k z λk=>sv k z (Qag Q55 k (cs:=#[I 0,I 0,I 0,I 0,I 0,I 0,.slice none 0 0,.slice none 0 0,I 0,.slice none 0 0]) (ps:=[]) z z (by kernel_rfl)) λa k=>pN 1 k z λa k=>sT sizeOf55 m 0 Al 0 k z z λDe a k e m Cm=>ul 5 k z λk=>?_;cases h;exact Qdy k z (RV.cA k z Qyf (Cm.at (m.a 0 z) 0 10 z z z) z) (RV.tmp k z) ⟨_,_,z,m.ext,⟨_,[],_,[],_,[],z,z,(Qaw _),(Qaw _),(Qaw _),by simpa [fps] using (m.sl [] z).nd⟩,(Qa0 (by simp) (Qa0 (by simp) (by simp)))⟩
   refine gc 5 [bA m 4 Bm z] k z λk=>sT sizeOf55 m 0 Al 0 k z (Qa9 z (Qa9 z (Qa9 z (Qa9 z (Qa9 z (Qa9 z (Qa9 (Qed (Enc.ow_rd Bh)) (Qa9 (Qed (Enc.ow_rd Bf)) (Qa9 z (Qa9 (Qed (Enc.ow_rd Ba)) Qqm)))))))))) λDk a k e m Br=>ul 4 k z λk=>?_;cases h;exact Qdy k z (RV.cA k z Qyf (Br.at (m.a 0 z) 0 10 z z z) z) (RV.tmp k z) ⟨_,_,z,m.ext,⟨_,Ax,_,Av,_,Aw,z,z,(m.v Bh 1 z),(m.v Bf 2 z),(m.v Ba 3 z),by simpa [fps] using (m.sl [1,2,3] z).nd⟩,(Qa0 (m.fresh 1 z) (Qa0 (m.fresh 2 z) (m.fresh 3 z)))⟩
 exact ⟨_,_,_,_,_,_,_,_,_,_,_,_,_,_,_,_,_,_,_,_,_,_,k.p z,(((m.addNil (u:=w0)).addNil (u:=w0)).addNil (u:=w0)).sel [5,0,1,2,3,4] z (by decide),(Qaw _),(Qaw _),(Qaw _),Bp,h⟩
theorem Qwn (fu) {w0} (t1 x2) {b3} (Aa:bx w0 b3 [I x2] 3) {r} (h:Qp1 fu t1 x2=some r):cS 185 [.agg (Flat.e (t1)).toArray,pt b3] w0 (.bool (r)):=by
 refine eg func185 z ntmps185 z λk m=>uc 2 k z λk=>Qbd m k z z z z z z λb5 w7 a k m e Ab=>gl 13 [bF m 0 Ab z,pF (r:=[]) (Aa.at (m.a00 Aa.lt1) 0 1 z z z)] k z λk=>fS h k m z z
theorem Qfv (fu) {w0} (Aa f5) {v2 F3} (Ab:rd w0 F3 [v2] Aa) {v6} (Ah:Qvt Tryz.prog w0 v6 f5) {r} (h:Qbl fu Aa f5=some r):cS 184 [v2,v6] w0 (I r):=by
 refine eg func184 z ntmps184 z λk m=>?_;obtain ⟨Af,Aj,rfl,Ak,Ae⟩:=Ah;refine gc 14 [lF Ab] k z λk=>lG (λn a w=>∃ Ac,K 19 [(0,v2),(1,(.func (.func Af) #[] Aj.toArray)),(7,I (Aa.length:Int)),(8,I Ac)] a∧St [] w0 w []∧Qa3 fu Aa f5 n Ac=some r) ?_ fu ?_
 · rintro Ap a Aq ⟨Ac,k,m,h⟩;refine uc 6 k z λk=>cJ h k z (λh=>?_) λh=>?_
   · refine o2 h λAm Ad Ao Ai h=>gc 17 [iF Ab Ad,eA (m.r Ab) Ad] k z λk=>Qty k Ak z z z z z z (Ae _ _ _ _ m.ext z Ai) λAs Ar hR=>?_;obtain ⟨rfl,e⟩:=hR;refine ⟨_,z,λa k=>?_⟩;have m:=m.step e;refine ul 2 k z λk=>cJ h k z (λh=>?_) λh=>?_
     · refine uc 12 k z λk=>fS h k m z z
     refine uc 8 k z λk=>?_;exact ⟨_,k.p z,m.sl [] z,h⟩
   refine uc 11 k z λk=>fS h k m z z
 exact ⟨_,k.p z,m.sl [] z,h⟩
theorem Qsy (fu) {w0} (r1 Ac) {Ag F3} (Ak:rd w0 F3 Ag r1) {r} (h:Qh5 fu r1 Ac=some r):cS 111 [.agg Ag.toArray,I Ac] w0 (.tuple #[.agg (Flat.e r.1).toArray,.bool (r.2)]):=by
 refine eg func111 z ntmps111 z λk m=>?_;obtain ⟨v6,F7,v8,F9,Aj,Ay,rfl,rfl,Be,Ab,Bc⟩:=Ak;refine uc 2 k z λk=>Qbd m k z z z z z z λBd At a k m e Af=>Qbd m k z z z z z z λAh Bb a k m e Ap=>Qaj m k zeroValue61 z z z z z λAx As a k m e Ae=>oE h λAz Aq h=>gl 8 [bF m 2 Af z] k z λk=>cC k m call184 z (Qfv fu _ _ (m.r Ab) ⟨185,[pt Ah],z,call185,λw Aw Ar r e Al hx=>by subst Al; have m:=m.step e; exact Qwn fu _ _ (Ap.agr (m.a 1 rfl) (by simp)) hx⟩ Aq) λBa e a k m=>pN 1 k rfl λa k=>ul 5 k z λk=>pN 2 k rfl λa k=>ul 2 k z λk=>cI h k rfl (λAo h=>?_) λAo h=>?_
 · refine uc 2 k z λk=>sv k z (Qag Q47 k (cs:=#[I 0,I 0,I 0,I 0,I 0,I 0,I 0]) (ps:=[]) z z (by kernel_rfl)) λa k=>sT sizeOf61 m 0 Ae 0 k z z λAv a k e m Ai=>ul 5 k z λk=>?_;cases h;exact Qdy k z (RV.cA k z Q8j (Ai.at (m.a 0 z) 0 7 z z z) z) (RV.tmp k z) ⟨z,m.ext⟩
 refine oE h λAa Ad h=>gc 9 [bF m 2 Af z,iF Ab Ad,eA (m.r Ab) Ad] k z λk=>sT sizeOf61 m 0 Ae 0 k z z λAu a k e m Am=>ul 4 k z λk=>?_;cases h;exact Qdy k z (RV.cA k z Q8j (Am.at (m.a 0 z) 0 7 z z z) z) (RV.tmp k z) ⟨z,m.ext⟩
theorem Qsm (fu) {w0} (r1) {Ae F3} (Ah:rd w0 F3 Ae r1) {r} (h:Qh8 fu r1=some r):cS 153 [.agg Ae.toArray] w0 (.tuple #[.agg (Flat.e r.1).toArray,.bool (r.2)]):=by
 refine eg func153 z ntmps153 z λk m=>?_;obtain ⟨v5,F6,v7,F8,v9,Ao,rfl,rfl,Af,Ad,Ab⟩:=Ah;refine uc 2 k z λk=>Qbd m k z z z z z z λAk Ap a k m e Ac=>Qaj m k zeroValue61 z z z z z λAl Aq a k m e Aj=>oE h λAa Ag h=>gl 8 [bA m 1 Ac z,bF m 1 Ac z] k z λk=>cC k m call111 z (Qsy fu _ _ (Qac (m.r Af) (m.r Ad) (m.r Ab)) Ag) λAm e a k m=>pN 2 k z λa k=>sT sizeOf61 m 0 Aj 0 k z z λAr a k e m Ai=>ul 4 k z λk=>?_;cases h;exact Qdy k z (RV.cA k z Q8j (Ai.at (m.a 0 z) 0 7 z z z) z) (RV.tmp k z) ⟨z,m.ext⟩
theorem Qgi (fu) {w0} (n1) {r} (h:Qc8 fu n1=some r):cS 247 [I n1] w0 (.bool (r)):=by
 refine eg func247 z ntmps247 z λk m=>oE h λx2 Aa h=>uc 8 k z λk=>cC k m call68 z (Qax fu _ _ _  Aa) λw5 e a k m=>ul 4 k z λk=>fS h k m z z
theorem Qok (fu) {w0} (x1) {r} (h:Qel fu x1=some r):cS 187 [.agg (Flat.e (x1)).toArray] w0 (.bool (r)):=by
 refine eg func187 z ntmps187 z λk m=>uc 2 k z λk=>Qbd m k z z z z z z λb2 w4 a k m e Ad=>oE h λx5 Ah h=>gl 7 [bF m 0 Ad z] k z λk=>cC k m call247 z (Qgi fu _  Ah) λw9 e a k m=>pN 1 k z λa k=>bS h k 6 z (λ_ h k=>?_) λ_ h k=>?_
 · refine oE h λAf Ag h=>gl 2 [bF m 0 Ad z] k z λk=>cC k m call247 z (Qgi fu _  Ag) λAk e a k m=>pN 2 k z λa k=>bS h k 11 z (λ_ h k=>?_) λ_ h k=>?_
   · refine oE h λAj Ae h=>gl 2 [bF m 0 Ad z] k z λk=>cC k m call247 z (Qgi fu _  Ae) λAm e a k m=>pN 2 k z λa k=>bS h k 16 z (λ_ h k=>?_) λ_ h k=>?_
     · refine oE h λAl Ai h=>gl 2 [bF m 0 Ad z] k z λk=>cC k m call68 z (Qax fu _ _ _  Ai) λAo e a k m=>ul 5 k z λk=>fS h k m z z
     refine ul 8 k z λk=>fS h k m z z
   refine ul 13 k z λk=>fS h k m z z
 refine ul 18 k z λk=>fS h k m z z
theorem Qj0 (fu) {w0} (Aa f5) {v2 F3} (Ab:rd w0 F3 [v2] Aa) {v6} (Ah:Qvt Tryz.prog w0 v6 f5) {r} (h:Qb9 fu Aa f5=some r):cS 278 [v2,v6] w0 (I r):=by
 refine eg func278 z ntmps278 z λk m=>?_;obtain ⟨Af,Aj,rfl,Ak,Ae⟩:=Ah;refine gc 14 [lF Ab] k z λk=>lG (λn a w=>∃ Ac,K 19 [(0,v2),(1,(.func (.func Af) #[] Aj.toArray)),(7,I (Aa.length:Int)),(8,I Ac)] a∧St [] w0 w []∧Qa2 fu Aa f5 n Ac=some r) ?_ fu ?_
 · rintro Ap a Aq ⟨Ac,k,m,h⟩;refine uc 6 k z λk=>cJ h k z (λh=>?_) λh=>?_
   · refine o2 h λAm Ad Ao Ai h=>gc 17 [iF Ab Ad,eA (m.r Ab) Ad] k z λk=>Qty k Ak z z z z z z (Ae _ _ _ _ m.ext z Ai) λAs Ar hR=>?_;obtain ⟨rfl,e⟩:=hR;refine ⟨_,z,λa k=>?_⟩;have m:=m.step e;refine ul 2 k z λk=>cJ h k z (λh=>?_) λh=>?_
     · refine uc 12 k z λk=>fS h k m z z
     refine uc 8 k z λk=>?_;exact ⟨_,k.p z,m.sl [] z,h⟩
   refine uc 11 k z λk=>fS h k m z z
 exact ⟨_,k.p z,m.sl [] z,h⟩
theorem Qet (fu) {w0} (Aa f5) {v2 F3} (Ab:rd w0 F3 [v2] Aa) {v6} (Af:Qvt Tryz.prog w0 v6 f5) {r} (h:Qa4 fu Aa f5=some r):cS 221 [v2,v6] w0 (.bool (r)):=by
 refine eg func221 z ntmps221 z λk m=>?_;obtain ⟨Aj,Al,rfl,Ag,Ad⟩:=Af;refine oE h λAi Ah h=>uc 9 k z λk=>cC k m call278 z (Qj0 fu _ _ (m.r Ab) ⟨_,_,z,Ag,λw Ae Ac r e=>Ad w Ae Ac r (m.ext.trans e (by simp))⟩ Ah) λAk e a k m=>ul 5 k z λk=>fS h k m z z
theorem Qw5 (fu) {w0} (p1) {r} (h:Qj3 fu p1=some r):cS 222 [.agg (Flat.e (p1)).toArray] w0 (.bool (r)):=by
 refine eg func222 z ntmps222 z λk m=>uc 2 k z λk=>Qbd m k z z z z z z λb2 w4 a k m e Ab=>oE h λx5 Ad h=>gl 7 [bF m 0 Ab z] k z λk=>cC k m call68 z (Qax fu _ _ _  Ad) λw9 e a k m=>pN 2 k z λa k=>bS h k 7 z (λ_ h k=>?_) λ_ h k=>?_
 · refine ul 9 k z λk=>fS h k m z z
 refine oE h λAf Ac h=>gl 2 [bF m 0 Ab z] k z λk=>cC k m call68 z (Qax fu _ _ _  Ac) λAe e a k m=>ul 6 k z λk=>fS h k m z z
theorem Qcv (fu) {w0} (Aa f5) {v2 F3} (Ab:rd w0 F3 [v2] Aa) {v6} (Af:Qvt Tryz.prog w0 v6 f5) {r} (h:Qav fu Aa f5=some r):cS 160 [v2,v6] w0 (.bool (r)):=by
 refine eg func160 z ntmps160 z λk m=>?_;obtain ⟨Aj,Al,rfl,Ag,Ad⟩:=Af;refine oE h λAi Ah h=>uc 9 k z λk=>cC k m call184 z (Qfv fu _ _ (m.r Ab) ⟨_,_,z,Ag,λw Ae Ac r e=>Ad w Ae Ac r (m.ext.trans e (by simp))⟩ Ah) λAk e a k m=>ul 5 k z λk=>fS h k m z z
theorem Q25 (fu) {w0} (x1) {r} (h:Qr2 fu x1=some r):cS 224 [.agg (Flat.e (x1)).toArray] w0 (.bool (r)):=by
 refine eg func224 z ntmps224 z λk m=>uc 2 k z λk=>Qbd m k z z z z z z λb2 w4 a k m e Aa=>oE h λx5 Aj h=>gl 7 [bF m 0 Aa z] k z λk=>cC k m call68 z (Qax fu _ _ _  Aj) λw9 e a k m=>pN 1 k z λa k=>bS h k 6 z (λ_ h k=>?_) λ_ h k=>?_
 · refine oE h λAm Ai h=>gl 2 [bF m 0 Aa z] k z λk=>cC k m call247 z (Qgi fu _  Ai) λAx e a k m=>pN 2 k z λa k=>bS h k 11 z (λ_ h k=>?_) λ_ h k=>?_
   · refine oE h λAp As h=>gl 2 [bF m 0 Aa z] k z λk=>cC k m call247 z (Qgi fu _  As) λBa e a k m=>pN 2 k z λa k=>bS h k 16 z (λ_ h k=>?_) λ_ h k=>?_
     · refine oE h λAo Ak h=>gl 2 [bF m 0 Aa z] k z λk=>cC k m call247 z (Qgi fu _  Ak) λAv e a k m=>pN 2 k z λa k=>bS h k 21 z (λ_ h k=>?_) λ_ h k=>?_
       · refine oE h λAl At h=>gl 2 [bF m 0 Aa z] k z λk=>cC k m call68 z (Qax fu _ _ _  At) λAw e a k m=>pN 2 k z λa k=>bS h k 26 z (λ_ h k=>?_) λ_ h k=>?_
         · refine oE h λAr Aq h=>gl 2 [bF m 0 Aa z] k z λk=>cC k m call68 z (Qax fu _ _ _  Aq) λAu e a k m=>pN 2 k z λa k=>bS h k 31 z (λ_ h k=>?_) λ_ h k=>?_
           · refine oE h λAy Ah h=>gl 2 [bF m 0 Aa z] k z λk=>cC k m call68 z (Qax fu _ _ _  Ah) λAz e a k m=>ul 5 k z λk=>fS h k m z z
           refine ul 8 k z λk=>fS h k m z z
         refine ul 13 k z λk=>fS h k m z z
       refine ul 18 k z λk=>fS h k m z z
     refine ul 23 k z λk=>fS h k m z z
   refine ul 28 k z λk=>fS h k m z z
 refine ul 33 k z λk=>fS h k m z z
theorem Qwt (fu) {w0} (t1) {r} (h:Qjx fu t1=some r):cS 223 [.agg (Flat.e (t1)).toArray] w0 (.bool (r)):=by
 refine eg func223 z ntmps223 z λk m=>uc 2 k z λk=>Qbd m k z z z z z z λb2 w4 a k m e Aa=>oE h λx5 Ab h=>gl 6 [bA m 0 Aa z] k z λk=>cC k m call224 z (Q25 fu (t1:Typ)  Ab) λw9 e a k m=>ul 5 k z λk=>fS h k m z z
theorem Q2q (fu) {w0} (x1) {r} (h:Qsd fu x1=some r):cS 225 [.agg (Flat.e (x1)).toArray] w0 (.bool (r)):=by
 refine eg func225 z ntmps225 z λk m=>uc 2 k z λk=>Qbd m k z z z z z z λb2 w4 a k m e Aa=>oE h λx5 Aj h=>gl 7 [bF m 0 Aa z] k z λk=>cC k m call68 z (Qax fu _ _ _  Aj) λw9 e a k m=>pN 1 k z λa k=>bS h k 6 z (λ_ h k=>?_) λ_ h k=>?_
 · refine oE h λAm Ai h=>gl 2 [bF m 0 Aa z] k z λk=>cC k m call247 z (Qgi fu _  Ai) λAx e a k m=>pN 2 k z λa k=>bS h k 11 z (λ_ h k=>?_) λ_ h k=>?_
   · refine oE h λAp As h=>gl 2 [bF m 0 Aa z] k z λk=>cC k m call247 z (Qgi fu _  As) λBa e a k m=>pN 2 k z λa k=>bS h k 16 z (λ_ h k=>?_) λ_ h k=>?_
     · refine oE h λAo Ak h=>gl 2 [bF m 0 Aa z] k z λk=>cC k m call247 z (Qgi fu _  Ak) λAv e a k m=>pN 2 k z λa k=>bS h k 21 z (λ_ h k=>?_) λ_ h k=>?_
       · refine oE h λAl At h=>gl 2 [bF m 0 Aa z] k z λk=>cC k m call68 z (Qax fu _ _ _  At) λAw e a k m=>pN 2 k z λa k=>bS h k 26 z (λ_ h k=>?_) λ_ h k=>?_
         · refine oE h λAr Aq h=>gl 2 [bF m 0 Aa z] k z λk=>cC k m call68 z (Qax fu _ _ _  Aq) λAu e a k m=>pN 2 k z λa k=>bS h k 31 z (λ_ h k=>?_) λ_ h k=>?_
           · refine oE h λAy Ah h=>gl 2 [bF m 0 Aa z] k z λk=>cC k m call68 z (Qax fu _ _ _  Ah) λAz e a k m=>ul 5 k z λk=>fS h k m z z
           refine ul 8 k z λk=>fS h k m z z
         refine ul 13 k z λk=>fS h k m z z
       refine ul 18 k z λk=>fS h k m z z
     refine ul 23 k z λk=>fS h k m z z
   refine ul 28 k z λk=>fS h k m z z
 refine ul 33 k z λk=>fS h k m z z
theorem Qyp (fu) {w0} (r1) {Ap F3} (Au:rd w0 F3 Ap r1) {r} (h:Qov fu r1=some r):cS 154 [.agg Ap.toArray] w0 (.bool (r)):=by
 refine eg func154 z ntmps154 z λk m=>?_;obtain ⟨v5,F6,v7,F8,v9,Ce,rfl,rfl,Am,Ao,Ac⟩:=Au;refine uc 2 k z λk=>Qbd m k z z z z z z λAk As a k m e Aa=>ul 3 k z λk=>cg (λa w=>K 70 [(1,pt Ak)] a∧St [] w0 w [([Ak],As)]∧Qoa fu r1=some r) ?_ ?_
 · rintro a Bw ⟨k,m,h⟩;refine oE h λCb Ba h=>gc 5 [bF m 0 Aa z] k z λk=>cC k m call221 z (Qet fu _ _ (m.r Am) ⟨222,[],z,call222,λw Bx Bq r e Az hx=>by subst Az; have m:=m.step e; exact Qw5 fu _  hx⟩ Ba) λCd e a k m=>ul 2 k z λk=>cI h k rfl (λAx h=>?_) λAx h=>?_
   · refine uc 7 k z λk=>fS h k m z z
   refine uc 2 k z λk=>cg (λa w=>K 70 [(1,pt Ak)] a∧St [] w0 w [([Ak],As)]∧Qoy fu r1=some r) ?_ ?_
   · rintro a By ⟨k,m,h⟩;refine gc 15 [bF m 0 Aa z,lF Ac] k z λk=>lG (λn a w=>∃ Al Aj,K 70 [(3,I Al),(54,v9),(55,I (r1.fV.length:Int)),(56,I Aj)] a∧St [] w0 w []∧Qeg fu r1 n Al Aj=some r) ?_ fu ?_
     · rintro Ca a Bz ⟨Al,Aj,k,m,h⟩;refine uc 6 k z λk=>cJ h k z (λh=>?_) λh=>?_
       · refine oE h λAb Aq h=>gc 8 [iF Ac Aq,eA (m.r Ac) Aq] k z λk=>Qaj m k zeroValue59 z z z z z λBs Bt a k m e Bb=>sT sizeOf59 m 0 Bb 0 k z z λBu a k e m Ar=>oE h λCi Bk h=>gl 6 [bA m 0 Ar z] k z λk=>cC k m call225 z (Q2q fu (Ab:Item)  Bk) λCk e a k m=>ul 3 k z λk=>cJ h k z (λh=>?_) λh=>?_
         · refine uc 12 k z λk=>fS h k m z z
         refine gc 16 [bF m 0 Ar z] k z λk=>?_;exact ⟨_,_,k.p z,m.sl [] z,h⟩
       refine uc 13 k z λk=>fS h k m z z
     exact ⟨_,_,k.p z,m.sl [] z,h⟩
   refine oE h λBn Bc h=>gc 5 [bF m 0 Aa z,lF Ao] k z λk=>cC k m call68 z (Qax fu _ _ _  Bc) λBr e a k m=>pN 2 k z λa k=>bS h k 36 z (λ_ h k=>?_) λ_ h k=>?_
   · refine ul 26 k z λk=>fS h k m z z
   refine oE h λAw Bh h=>gl 2 [bF m 0 Aa z] k z λk=>cC k m call160 z (Qcv fu _ _ (m.r Ao) ⟨223,[],z,call223,λw Cl Cj r e Bm hx=>by subst Bm; have m:=m.step e; exact Qwt fu _  hx⟩ Bh) λCg e a k m=>pN 2 k rfl λa k=>bS h k 41 z (λ_ h k=>?_) λ_ h k=>?_
   · refine ul 21 k z λk=>fS h k m z z
   refine oE h λBp At h=>gl 2 [bF m 0 Aa z] k z λk=>cC k m call68 z (Qax fu _ _ _  At) λCm e a k m=>pN 3 k z λa k=>bS h k 47 z (λ_ h k=>?_) λ_ h k=>?_
   · refine ul 15 k z λk=>fS h k m z z
   refine gl 7 [bF m 0 Aa z,lF Ac] k z λk=>cJ h k z (λh=>?_) λh=>?_
   · refine uc 7 k z λk=>fS h k m z z
   refine uc 2 k z λk=>?_;exact ⟨k.p z,m.sl [0] z,h⟩
 refine oE h λBj Bi h=>gc 4 [bF m 0 Aa z] k z λk=>cC k m call68 z (Qax fu _ _ _  Bi) λBv e a k m=>pN 2 k z λa k=>bS h k 10 z (λ_ h k=>?_) λ_ h k=>?_
 · refine ul 27 k z λk=>fS h k m z z
 refine oE h λBd Bl h=>gl 2 [bA m 0 Aa z] k z λk=>cC k m call187 z (Qok fu (r1.fJ:Pallet)  Bl) λCh e a k m=>pN 3 k z λa k=>bS h k 16 z (λ_ h k=>?_) λ_ h k=>?_
 · refine ul 21 k z λk=>fS h k m z z
 refine oE h λBo Be h=>gl 2 [bF m 0 Aa z] k z λk=>cC k m call68 z (Qax fu _ _ _  Be) λCc e a k m=>pN 3 k z λa k=>bS h k 22 z (λ_ h k=>?_) λ_ h k=>?_
 · refine ul 15 k z λk=>fS h k m z z
 refine gl 7 [bF m 0 Aa z,lF Am] k z λk=>cJ h k z (λh=>?_) λh=>?_
 · refine uc 7 k z λk=>fS h k m z z
 refine uc 2 k z λk=>?_;exact ⟨k.p z,m.sl [0] z,h⟩
theorem Qxx (fu) {w0} (q1 x2) {b3} (Aa:bx w0 b3 [I x2.ft,I x2.fW,I x2.fH,I x2.fD,I x2.qQ,I x2.fQ,I x2.fl] 61) {r} (h:Qrb fu q1 x2=some r):cS 226 [.agg (Flat.e (q1)).toArray,pt b3] w0 (.bool (r)):=by
 refine eg func226 z ntmps226 z λk m=>uc 2 k z λk=>Qbd m k z z z z z z λb5 w7 a k m e Ab=>gl 14 [bF m 0 Ab z,pF (r:=[]) (Aa.at (m.a00 Aa.lt1) 0 1 z z z)] k z λk=>fS h k m z z
theorem Qx5 (fu) {w0} (q1 x2) {b3} (Aa:bx w0 b3 [I x2.ft,I x2.fW,I x2.fH,I x2.fD,I x2.fQ,I x2.fK,I x2.fF] 59) {r} (h:Qrk fu q1 x2=some r):cS 227 [.agg (Flat.e (q1)).toArray,pt b3] w0 (.bool (r)):=by
 refine eg func227 z ntmps227 z λk m=>uc 2 k z λk=>Qbd m k z z z z z z λb5 w7 a k m e Ab=>gl 14 [bF m 0 Ab z,pF (r:=[]) (Aa.at (m.a00 Aa.lt1) 0 1 z z z)] k z λk=>fS h k m z z
theorem Qj6 (fu) {w0} (Aa f5) {v2 F3} (Ab:rd w0 F3 [v2] Aa) {v6} (Ah:Qvt Tryz.prog w0 v6 f5) {r} (h:Qca fu Aa f5=some r):cS 230 [v2,v6] w0 (I r):=by
 refine eg func230 z ntmps230 z λk m=>?_;obtain ⟨Af,Aj,rfl,Ak,Ae⟩:=Ah;refine gc 14 [lF Ab] k z λk=>lG (λn a w=>∃ Ac,K 19 [(0,v2),(1,(.func (.func Af) #[] Aj.toArray)),(7,I (Aa.length:Int)),(8,I Ac)] a∧St [] w0 w []∧Qa1 fu Aa f5 n Ac=some r) ?_ fu ?_
 · rintro Ap a Aq ⟨Ac,k,m,h⟩;refine uc 6 k z λk=>cJ h k z (λh=>?_) λh=>?_
   · refine o2 h λAm Ad Ao Ai h=>gc 17 [iF Ab Ad,eA (m.r Ab) Ad] k z λk=>Qty k Ak z z z z z z (Ae _ _ _ _ m.ext z Ai) λAs Ar hR=>?_;obtain ⟨rfl,e⟩:=hR;refine ⟨_,z,λa k=>?_⟩;have m:=m.step e;refine ul 2 k z λk=>cJ h k z (λh=>?_) λh=>?_
     · refine uc 12 k z λk=>fS h k m z z
     refine uc 8 k z λk=>?_;exact ⟨_,k.p z,m.sl [] z,h⟩
   refine uc 11 k z λk=>fS h k m z z
 exact ⟨_,k.p z,m.sl [] z,h⟩
theorem Qcu (fu) {w0} (Aa f5) {v2 F3} (Ab:rd w0 F3 [v2] Aa) {v6} (Af:Qvt Tryz.prog w0 v6 f5) {r} (h:Qa5 fu Aa f5=some r):cS 157 [v2,v6] w0 (.bool (r)):=by
 refine eg func157 z ntmps157 z λk m=>?_;obtain ⟨Aj,Al,rfl,Ag,Ad⟩:=Af;refine oE h λAi Ah h=>uc 9 k z λk=>cC k m call230 z (Qj6 fu _ _ (m.r Ab) ⟨_,_,z,Ag,λw Ae Ac r e=>Ad w Ae Ac r (m.ext.trans e (by simp))⟩ Ah) λAk e a k m=>ul 5 k z λk=>fS h k m z z
theorem Qxu (fu) {w0} (p1 x2) {v5 F6 v8 F9 Ad Ae b3} (Ab:bx w0 b3 (cR x2 v5 v8 Ad) 55) (Ah:rd w0 F6 [v5] x2.fR) (Aj:rd w0 F9 [v8] x2.fU) (Ag:rd w0 Ae [Ad] x2.fV) {r} (h:Qln fu p1 x2=some r):cS 228 [.agg (Flat.e (p1)).toArray,pt b3] w0 (.bool (r)):=by
 refine eg func228 z ntmps228 z λk m=>uc 2 k z λk=>Qbd m k z z z z z z λAf Ai a k m e Ac=>gl 11 [bF m 0 Ac z,pF (r:=[]) (Ab.at (m.a00 Ab.lt1) 5 1 z z z)] k z λk=>bS h k 9 z (λ_ h k=>?_) λ_ h k=>?_
 · refine ul 10 k z λk=>fS h k m z z
 refine gl 10 [bF m 0 Ac z,pF (r:=[]) (Ab.at (m.a00 Ab.lt1) 5 1 z z z)] k z λk=>fS h k m z z
theorem Q1h (fu) {w0} (r1) {Aq F3} (Aw:rd w0 F3 Aq r1) {r} (h:Qqd fu r1=some r):cS 155 [.agg Aq.toArray] w0 (.bool (r)):=by
 refine eg func155 z ntmps155 z λk m=>?_;obtain ⟨v5,F6,v7,F8,v9,Cl,rfl,rfl,Ai,Ab,Aa⟩:=Aw;refine uc 2 k z λk=>Qbd m k z z z z z z λAf Am a k m e Ad=>gl 13 [bF m 0 Ad z,lF Ab] k z λk=>lG (λn a w=>∃ Al,K 59 [(1,pt Af),(10,v7),(11,I (r1.fU.length:Int)),(12,I Al)] a∧St [] w0 w [([Af],Am)]∧Qe6 fu r1 n Al=some r) ?_ fu ?_
 · rintro Bu a Bx ⟨Al,k,m,h⟩;refine uc 6 k z λk=>cJ h k z (λh=>?_) λh=>?_
   · refine oE h λAg At h=>gc 9 [iF Ab At,eA (m.r Ab) At] k z λk=>Qaj m k zeroValue61 z z z z z λBe Bp a k m e Bj=>pN 1 k z λa k=>sT sizeOf61 m 0 Bj 0 k z z λCj a k e m Bg=>oE h λCt Bh h=>gl 7 [bF m 1 Ad z] k z λk=>Q1y Ab Bh k Jk2 z z z z z z λBq a k As=>pN 1 k z λa k=>oE h λCe Au h=>cC k m call160 z (Qcv fu _ _ (m.r As) ⟨226,[pt Be],z,call226,λw Cm Br r e Bf hx=>by subst Bf; have m:=m.step e; exact Qxx fu _ _ (Bg.agr (m.a 0 rfl) (by simp)) hx⟩ Au) λCk e a k m=>ul 2 k z λk=>cI h k rfl (λBm h=>?_) λBm h=>?_
     · refine uc 11 k z λk=>fS h k m z z
     refine uc 8 k z λk=>?_;exact ⟨_,k.p z,m.sl [1] z,h⟩
   refine gc 15 [bF m 0 Ad z,lF Aa] k z λk=>lG (λn a w=>∃ Ah,K 59 [(1,pt Af),(25,v9),(26,I (r1.fV.length:Int)),(27,I Ah)] a∧St [] w0 w [([Af],Am)]∧Qdb fu r1 n Ah=some r) ?_ fu ?_
   · rintro Bc a Cr ⟨Ah,k,m,h⟩;refine uc 6 k z λk=>cJ h k z (λh=>?_) λh=>?_
     · refine uc 2 k z λk=>cg (λa w=>K 59 [(1,pt Af),(25,v9),(26,I (r1.fV.length:Int)),(27,I Ah)] a∧St [] w0 w [([Af],Am)]∧Qpp fu (Qdb fu r1 Bc) Ah=some r) ?_ ?_
       · rintro a Cs ⟨k,m,h⟩;refine uc 5 k z λk=>?_;exact ⟨_,k.p z,m.sl [0] z,h⟩
       refine oE h λAe Ao h=>gc 6 [iF Aa Ao,eA (m.r Aa) Ao] k z λk=>Qaj m k zeroValue59 z z z z z λBb Cc a k m e Av=>pN 1 k z λa k=>sT sizeOf59 m 0 Av 0 k z z λCq a k e m Ar=>gl 10 [bF m 0 Ar z,bF m 1 Ad z] k z λk=>bS h k 37 z (λ_ h k=>?_) λ_ h k=>?_
       · refine ul 21 k z λk=>fS h k m z z
       refine oE h λBt Bd h=>gl 3 [bF m 1 Ad z] k z λk=>Q1y Aa Bd k Jk9 z z z z z z λCo a k Ap=>pN 1 k z λa k=>oE h λCd Ax h=>cC k m call157 z (Qcu fu _ _ (m.r Ap) ⟨227,[pt Bb],z,call227,λw Ch By r e Ba hx=>by subst Ba; have m:=m.step e; exact Qx5 fu _ _ (Ar.agr (m.a 0 rfl) (by simp)) hx⟩ Ax) λBz e a k m=>pN 1 k rfl λa k=>ul 2 k z λk=>cI h k rfl (λBo h=>?_) λBo h=>?_
       · refine uc 11 k z λk=>fS h k m z z
       refine uc 3 k z λk=>?_;exact ⟨k.p z,m.sl [1] z,h⟩
     refine oE h λAc Bl h=>gc 8 [bA m 0 Ad z] k z λk=>cC k m call153 z (Qsm fu _ (Qac (m.r Ai) (m.r Ab) (m.r Aa)) Bl) λBw e a k m=>pN 3 k z λa k=>Qaj m k zeroValue61 z z z z z λCp Ca a k m e Bk=>sT sizeOf61 m 0 Bk 0 k z z λBs a k e m Ci=>ul 7 k z λk=>bS h k 52 z (λ_ h k=>?_) λ_ h k=>?_
     · refine oE h λBv Az h=>gl 3 [bF m 1 Ad z] k z λk=>cC k m call221 z (Qet fu _ _ (m.r Ai) ⟨228,[pt Af],z,call228,λw Cb Cn r e Bi hx=>by subst Bi; have m:=m.step e; exact Qxu fu _ _ (Ad.agr (m.a 1 rfl) (by simp)) (m.r Ai) (m.r Ab) (m.r Aa) hx⟩ Az) λCg e a k m=>pN 3 k rfl λa k=>ul 3 k z λk=>fS h k m rfl rfl
     refine ul 10 k z λk=>fS h k m z z
   exact ⟨_,k.p z,m.sl [0] z,h⟩
 exact ⟨_,k.p z,m.sl [0] z,h⟩
theorem Qnp (fu) {w0} (Aa v5) {v2 F3} (Ab:rd w0 F3 [v2] Aa) {r} (h:Qee fu Aa v5=some r):cS 302 [v2,.agg (Flat.e (v5)).toArray] w0 (I r):=by
 refine eg func302 z ntmps302 z λk m=>uc 2 k z λk=>Qbd m k z z z z z z λb6 w9 a k m e Ag=>gl 12 [lF Ab] k z λk=>lG (λn a w=>∃ Ac,K 19 [(0,v2),(3,pt b6),(7,I (Aa.length:Int)),(8,I Ac)] a∧St [] w0 w [([b6],w9)]∧Qba fu Aa v5 n Ac=some r) ?_ fu ?_
 · rintro Ak a Aj ⟨Ac,k,m,h⟩;refine uc 6 k z λk=>cJ h k z (λh=>?_) λh=>?_
   · refine uc 11 k z λk=>Qgu [] Qge m z λAf hMd=>?_;have m:=hMd;have s:=Ext.refl ([]:List Nat) Af;refine oE h λAe Ad h=>dr [1,2,0,3,4] 5 [bA hMd 0 Ag z,iF Ab Ad,eA (hMd.r Ab) Ad] k z s λk=>dT k 5 z z s (λw s=>Jm2 Jmi (x:=v5) (y:=Ae) k z z z z z) λa k=>dD ((Qad ?_));refine cJ h k z (λh=>?_) λh=>?_
     · refine uc 12 k z λk=>fS h k m z z
     refine uc 8 k z λk=>?_;exact ⟨_,k.p z,m.sl [0] z,h⟩
   refine uc 11 k z λk=>fS h k m z z
 exact ⟨_,k.p z,m.sl [0] z,h⟩
theorem Qk2 (fu) {w0} (Aa v5) {v2 F3} (Ab:rd w0 F3 [v2] Aa) {r} (h:Qdl fu Aa v5=some r):cS 279 [v2,.agg (Flat.e (v5)).toArray] w0 (.bool (r)):=by
 refine eg func279 z ntmps279 z λk m=>uc 2 k z λk=>Qbd m k z z z z z z λb6 w9 a k m e Ac=>oE h λAf Ad h=>gl 7 [bA m 0 Ac z] k z λk=>cC k m call302 z (Qnp fu _ (v5:Pair) (m.r Ab) Ad) λAe e a k m=>ul 5 k z λk=>fS h k m z z
theorem Qpc (fu) {w0} (Aa a5 b6) {v2 F3} (Ab:rd w0 F3 [v2] Aa) {r} (h:Qhq fu Aa a5 b6=some r):cS 229 [v2,I a5,I b6] w0 (.bool (r)):=by
 refine eg func229 z ntmps229 z λk m=>uc 10 k z λk=>sv k z (Qag Jgz k (cs:=#[I a5,I b6]) (ps:=[(0,.tmp 8),(1,.tmp 9)]) z z (by kernel_rfl)) λa k=>oE h λx7 Ac h=>cC k m call279 z (Qk2 fu _ (⟨a5,b6⟩:Pair) (m.r Ab) Ac) λAd e a k m=>ul 4 k z λk=>fS h k m z z
theorem Q1e (fu) {w0} (Ad Aa) {v2 F3} (Ac:rd w0 F3 [v2] Ad) {r} (h:Qqo fu Ad Aa=some r):cS 156 [v2,I Aa] w0 (.bool (r)):=by
 refine eg func156 z ntmps156 z λk m=>oE h λx6 Ao h=>uc 9 k z λk=>cC k m call68 z (Qax fu _ _ _  Ao) λw9 e a k m=>ul 3 k z λk=>cJ h k z (λh=>?_) λh=>?_
 · refine uc 7 k z λk=>fS h k m z z
 refine uc 10 k z λk=>lG (λn a w=>∃ Ab,K 34 [(0,v2),(1,I Aa),(10,I Aa),(11,I Ab)] a∧St [] w0 w []∧Qe5 fu Ad Aa n Ab=some r) ?_ fu ?_
 · rintro Ak a At ⟨Ab,k,m,h⟩;refine uc 6 k z λk=>cJ h k z (λh=>?_) λh=>?_
   · refine oE h λAx Aj h=>uc 16 k z λk=>cC k m call229 z (Qpc fu _ _ _ (m.r Ac) Aj) λAs e a k m=>ul 3 k z λk=>cJ h k z (λh=>?_) λh=>?_
     · refine uc 12 k z λk=>fS h k m z z
     refine uc 9 k z λk=>lG (λn a w=>∃ Ae,K 34 [(0,v2),(1,I Aa),(5,I Ab),(10,I Aa),(11,I Ab),(19,I Aa),(20,I Ae)] a∧St [] w0 w []∧Qey fu (Qe5 fu Ad Aa Ak) Ad Aa Ab n Ae=some r) ?_ fu ?_
     · rintro Au a Aw ⟨Ae,k,m,h⟩;refine uc 6 k z λk=>cJ h k z (λh=>?_) λh=>?_
       · refine oE h λAr Ai h=>uc 15 k z λk=>cC k m call229 z (Qpc fu _ _ _ (m.r Ac) Ai) λAq e a k m=>pN 3 k z λa k=>oE h λAy Al h=>cC k m call229 z (Qpc fu _ _ _ (m.r Ac) Al) λAv e a k m=>sv k z (Je9 k underlying4 z z z) λa k=>ul 2 k z λk=>cJ h k z (λh=>?_) λh=>?_
         · refine uc 15 k z λk=>fS h k m z z
         refine uc 8 k z λk=>?_;exact ⟨_,k.p z,m.sl [] z,h⟩
       refine uc 11 k z λk=>?_;exact ⟨_,k.p z,m.sl [] z,h⟩
     exact ⟨_,k.p z,m.sl [] z,h⟩
   refine uc 11 k z λk=>fS h k m z z
 exact ⟨_,k.p z,m.sl [] z,h⟩
theorem Qhr (fu:Nat) {w0:World} (x1:List Int) {v2:Value} {F3:List Nat} (Aa:ow w0 F3 [v2] x1) {r:List Int}
    (h:Qcl fu x1=some r) :
    Calls Tryz.prog 97 #[v2] w0 λe w=>∃ H:List Nat,e=.returned (.tuple #[])∧Ext F3 w0 w∧(∀ b∈H,b∈F3∨w0.heap.size≤b)∧ow w H [v2] r :=
  (Jbf (λblk off cap zs w=>Tryz.slices_Sort_int blk off cap zs w) (λp cap w=>Tryz.slices_Sort_int_none p cap w) x1 Aa h).mono λe w ⟨h1,h2,h3⟩=>⟨_,h1,h2,λb hb=>.inl hb,h3⟩
theorem Qzv (fu) {w0} (x1 t2) {r} (h:Qsi fu x1 t2=some r):cS 159 [.agg (Flat.e (x1)).toArray,.agg (Flat.e (t2)).toArray] w0 (.bool (r)):=by
 refine eg func159 z ntmps159 z λk m=>uc 2 k z λk=>Qbd m k z z z z z z λb3 w5 a k m e Af=>Qbd m k z z z z z z λb6 w9 a k m e Ag=>ul 3 k z λk=>cg (λa w=>∃ Ao Ap Ai Ah Aj Ak Al Am,K 57 [(2,pt b3),(3,pt b6),(5,Ap),(6,Ak)] a∧St [] w0 w [([b3],w5),([b6],w9),(Ai,Ah),(Al,Am)]∧ow Ah Ai [Ap] Ao∧ow Am Al [Ak] Aj∧Qtr fu x1 t2 Ao Aj=some r) ?_ ?_
 · rintro a Ct ⟨Ao,Ap,Ai,Ah,Aj,Ak,Al,Am,k,m,Bb,Bg,h⟩;refine oE h λCk Bu h=>uc 3 k z λk=>sC k call97 z (Qhr fu _ (m.v Bb 2 z) Bu) λCh Cm hR=>?_;obtain ⟨Cn,rfl,e,Bk,Aa⟩:=hR;refine ⟨_,z,λa k=>?_⟩;have m:=m.mut 2 z e _ (λb hb=>⟨Bk b hb,Enc.rd_lt (Enc.ow_rd Aa) b hb⟩) (Enc.ow_nd Aa);refine oE h λCr Ba h=>ul 5 k z λk=>sC k call97 z (Qhr fu _ (m.v Bg 3 z) Ba) λCi Cq hR=>?_;obtain ⟨Cs,rfl,e,Bh,Ab⟩:=hR;refine ⟨_,z,λa k=>?_⟩;have m:=m.mut 3 z e _ (λb hb=>⟨Bh b hb,Enc.rd_lt (Enc.ow_rd Ab) b hb⟩) (Enc.ow_nd Ab);refine ul 3 k z λk=>Qgu [] Qge m z λCc hMd=>?_;have m:=hMd;have s:=Ext.refl ([]:List Nat) Cc;refine o2 h λBs Ay Bz Aw h=>dr [0,3,1,2,4,5,6,7] 8 [iF (Enc.ow_rd Aa) Ay,eF (hMd.q Aa 2 z) Ay 0,iF (Enc.ow_rd Ab) Aw,eF (hMd.q Ab 3 z) Aw 0] k z s λk=>bS h k 32 z (λ_ h k=>?_) λ_ h k=>?_
   · refine o2 h λBj At Cb Au h=>dr [8,11,9,10,12,13,14,15,16] 9 [iF (Enc.ow_rd Aa) At,eF (hMd.q Aa 2 z) At 0,iF (Enc.ow_rd Ab) Au,eF (hMd.q Ab 3 z) Au 0] k z s λk=>bS h k 41 z (λ_ h k=>?_) λ_ h k=>?_
     · refine o2 h λBv Aq Bi As h=>dr [17,20,18,19,21,22,23,24,25] 9 [iF (Enc.ow_rd Aa) Aq,eF (hMd.q Aa 2 z) Aq 0,iF (Enc.ow_rd Ab) As,eF (hMd.q Ab 3 z) As 0] k z s λk=>bS h k 50 z (λ_ h k=>?_) λ_ h k=>?_
       · refine dr [26,27,28,29,30,31,32] 7 [bF hMd 0 Af z,bF hMd 1 Ag z] k z s λk=>dD ?_;refine (Qad ?_);refine wp_ret (fS h k m z z)
       refine dM [26,27,28,29,30,31,32] 7 z k z s λa k=>dD ?_;refine (Qad ?_);refine wp_ret (fS h k m z z)
     refine dM [17,18,19,20,21,22,23,24,25,26,27,28,29,30,31,32] 16 z k z s λa k=>dD ?_;refine (Qad ?_);refine wp_ret (fS h k m z z)
   refine dM [8,9,10,11,12,13,14,15,16,17,18,19,20,21,22,23,24,25,26,27,28,29,30,31,32] 25 z k z s λa k=>dD ?_;refine (Qad ?_);refine wp_ret (fS h k m z z)
 refine Qgu [] Qge m z λCd hMd=>?_;have m:=hMd;have s:=Ext.refl ([]:List Nat) Cd;refine dr [0,1,2,3,4,5,7,8,9,10,11,12] 12 [bF hMd 1 Af z,bF hMd 1 Af z,bF hMd 1 Af z,bF hMd 0 Ag z,bF hMd 0 Ag z,bF hMd 0 Ag z] k z s λk=>dG2 6 13 (by kernel_rfl) z z ?_ ?_
 · refine Qbw Qbf m k z z z z z z z (by decide) z (by exact fC z (fC z (fC z fN))) λAz Bx Cv a k m e Bc Bt=>?_;have Cp:=lo1 (Nat.le_trans s.size Bt);have By:=Qai Bc ([x1.fW,x1.fH,x1.fD]:List Int) z z z;refine ns s e λs=>dM [14] 1 z k z s λa k=>dG 13 z (Qbw Qbf m k z z z z z z z (by decide) z (by exact fC z (fC z (fC z fN))) λAx Bw Cj a k m e Bd Bo=>?_);have Cl:=lo1 (Nat.le_trans s.size Bo);have Bq:=Qai Bd ([t2.fW,t2.fH,t2.fD]:List Int) z z z;refine ns s e λs=>dM [15] 1 z k z s λa k=>dD ((Qad ?_));exact ⟨_,_,_,_,_,_,_,_,k.p z,m.sl [3,2,1,0] z,By,Bq,h⟩
 refine Qbw Qbf m k z z z z z z z (by decide) z (by exact fC z (fC z (fC z fN))) λAv Bn Co a k m e Bl Bp=>?_;have Cu:=lo1 (Nat.le_trans s.size Bp);have Br:=Qai Bl ([t2.fW,t2.fH,t2.fD]:List Int) z z z;refine ns s e λs=>dG 6 z (Qbw Qbf m k z z z z z z z (by decide) z (by exact fC z (fC z (fC z fN))) λAr Bm Ce a k m e Bf Be=>?_);have Cg:=lo1 (Nat.le_trans s.size Be);have Ca:=Qai Bf ([x1.fW,x1.fH,x1.fD]:List Int) z z z;refine ns s e λs=>dM [14,15] 2 z k z s λa k=>dD ((Qad ?_));exact ⟨_,_,_,_,_,_,_,_,k.p z,m.sl [3,2,0,1] z,Ca,Br,h⟩
theorem Q0u (fu) {w0} (x1 x2) {b3} (Aa:bx w0 b3 [I x2.ft,I x2.fW,I x2.fH,I x2.fD,I x2.qQ,I x2.fQ,I x2.fl] 61) {r} (h:Qqp fu x1 x2=some r):cS 158 [.agg (Flat.e (x1)).toArray,pt b3] w0 (.bool (r)):=by
 refine eg func158 z ntmps158 z λk m=>uc 2 k z λk=>Qbd m k z z z z z z λb5 w7 a k m e Ab=>gl 6 [bA m 0 Ab z] k z λk=>sv k z (Qjl Q8j (Aa.at (m.a00 Aa.lt1) 0 7 z z z) z k z z) λa k=>oE h λx8 Ac h=>cC k m call159 z (Qzv fu (x1:Item) (x2:Typ)  Ac) λAd e a k m=>ul 5 k z λk=>fS h k m z z
theorem Q1i (fu) {w0} (t1 x2) {b3} (Aa:bx w0 b3 [I x2.fW,I x2.fD,I x2.fH,I x2.fQ] 50) {r} (h:Qqx fu t1 x2=some r):cS 161 [.agg (Flat.e (t1)).toArray,pt b3] w0 (.bool (r)):=by
 refine eg func161 z ntmps161 z λk m=>uc 2 k z λk=>Qbd m k z z z z z z λb5 w7 a k m e Ab=>gl 11 [bF m 0 Ab z,pF (r:=[]) (Aa.at (m.a00 Aa.lt1) 0 1 z z z)] k z λk=>bS h k 9 z (λ_ h k=>?_) λ_ h k=>?_
 · refine ul 27 k z λk=>fS h k m z z
 refine gl 7 [bF m 0 Ab z,pF (r:=[]) (Aa.at (m.a00 Aa.lt1) 1 1 z z z)] k z λk=>bS h k 16 z (λ_ h k=>?_) λ_ h k=>?_
 · refine ul 20 k z λk=>fS h k m z z
 refine gl 7 [bF m 0 Ab z,pF (r:=[]) (Aa.at (m.a00 Aa.lt1) 2 1 z z z)] k z λk=>bS h k 23 z (λ_ h k=>?_) λ_ h k=>?_
 · refine ul 13 k z λk=>fS h k m z z
 refine gl 13 [bF m 0 Ab z,bF m 0 Ab z,pF (r:=[]) (Aa.at (m.a00 Aa.lt1) 3 1 z z z)] k z λk=>fS h k m z z
theorem Qxr (fu) {w0} (r1) {Af F3} (Al:rd w0 F3 Af r1) {r} (h:Qq5 fu r1=some r):cS 91 [.agg Af.toArray] w0 (I r):=by
 refine eg func91 z ntmps91 z λk m=>?_;obtain ⟨v5,F6,v7,F8,v9,Bp,rfl,rfl,Ac,Ad,Aa⟩:=Al;refine uc 2 k z λk=>Qbd m k z z z z z z λBg Bu a k m e Ab=>oE h λAe Au h=>gl 6 [bA m 0 Ab z] k z λk=>cC k m call153 z (Qsm fu _ (Qac (m.r Ac) (m.r Ad) (m.r Aa)) Au) λBq e a k m=>pN 3 k z λa k=>Qaj m k zeroValue61 z z z z z λAt Bc a k m e Ao=>sT sizeOf61 m 0 Ao 0 k z z λBj a k e m Av=>gl 7 [bA m 1 Ab z] k z λk=>Qaj m k zeroValue50 z z z z z λAs Bd a k m e Ay=>sT sizeOf50 m 0 Ay 0 k z z λBk a k e m Aq=>oE h λBs Ax h=>gl 7 [bA m 2 Ab z] k z λk=>cC k m call154 z (Qyp fu _ (Qac (m.r Ac) (m.r Ad) (m.r Aa)) Ax) λBf e a k m=>ul 4 k z λk=>?_;refine cJ h k z (λh=>?_) λh=>?_
 · refine uc 8 k z λk=>fS h k m z z
 refine oE h λBn Am h=>gc 3 [bA m 2 Ab z] k z λk=>cC k m call155 z (Q1h fu _ (Qac (m.r Ac) (m.r Ad) (m.r Aa)) Am) λBo e a k m=>ul 4 k z λk=>cJ h k z (λh=>?_) λh=>?_
 · refine uc 8 k z λk=>fS h k m z z
 refine oE h λBw Ba h=>gc 6 [bF m 2 Ab z,bF m 2 Ab z] k z λk=>cC k m call156 z (Q1e fu _ _ (m.r Ac) Ba) λBb e a k m=>ul 4 k z λk=>cJ h k z (λh=>?_) λh=>?_
 · refine uc 8 k z λk=>fS h k m z z
 refine oE h λBe Ap h=>gc 5 [bF m 2 Ab z] k z λk=>cC k m call157 z (Qcu fu _ _ (m.r Aa) ⟨158,[pt At],z,call158,λw Bt Br r e Ar hx=>by subst Ar; have m:=m.step e; exact Q0u fu _ _ (Av.agr (m.a 1 rfl) (by simp)) hx⟩ Ap) λBl e a k m=>pN 1 k rfl λa k=>ul 2 k z λk=>cI h k rfl (λAi h=>?_) λAi h=>?_
 · refine uc 8 k z λk=>fS h k m z z
 refine oE h λBm Ah h=>gc 5 [bF m 2 Ab z] k z λk=>cC k m call160 z (Qcv fu _ _ (m.r Ad) ⟨161,[pt As],z,call161,λw Bv Bh r e Ak hx=>by subst Ak; have m:=m.step e; exact Q1i fu _ _ (Aq.agr (m.a 0 rfl) (by simp)) hx⟩ Ah) λBi e a k m=>pN 1 k rfl λa k=>ul 2 k z λk=>cI h k rfl (λAw h=>?_) λAw h=>?_
 · refine uc 8 k z λk=>fS h k m z z
 refine uc 9 k z λk=>fS h k m z z
theorem Q0i (fu) {w0} (hT:Te Tryz.prog w0) (Ab) {r} (h:Qqj fu Ab=some r):cS 50 [.string (Ab)] w0 (I r):=by
 refine eg func50 z ntmps50 z λk m=>oE h λx2 Am h=>uc 8 k z λk=>sC k call51 z (Qul fu (m.te hT) _  Am) λe4 w5 hR=>?_;obtain ⟨As,F6,rfl,e,Aa,Aj⟩:=hR;refine ⟨_,z,λa k=>?_⟩;have m:=m.nw e Aj Aa;obtain ⟨Ah,Ax,Af,Ar,Ad,Aw,rfl,rfl,Ac,Ae,Ag,_⟩:=Aa;have m:=m.split2;have m:=m.split2at1;refine pN 3 k z λa k=>Qaj m k zeroValue55 z z z z z λAv Au a k m e Ak=>sT sizeOf55 m 0 Ak 0 k z (Qa9 z (Qa9 z (Qa9 z (Qa9 z (Qa9 z (Qa9 z (Qa9 (Qed (Enc.ow_rd Ac)) (Qa9 (Qed (Enc.ow_rd Ae)) (Qa9 z (Qa9 (Qed (Enc.ow_rd Ag)) Qqm)))))))))) λAp a k e m Ai=>ul 10 k z λk=>cJ h k z (λh=>?_) λh=>?_
 · refine uc 7 k z λk=>fS h k m z z
 refine oE h λAq Ao h=>gc 5 [bA m 0 Ai z] k z λk=>cC k m call91 z (Qxr fu _ (Qac (m.q Ac 1 z) (m.q Ae 2 z) (m.q Ag 3 z)) Ao) λAt e a k m=>ul 4 k z λk=>fS h k m z z
theorem Qie (fu) {w0} (r1) {Ad F3} (Af:rd w0 F3 Ad r1) {r} (h:Qfp fu r1=some r):cS 56 [.agg Ad.toArray] w0 (.bool (r)):=by
 refine eg func56 z ntmps56 z λk m=>?_;obtain ⟨v5,F6,v7,F8,v9,Aj,rfl,rfl,Ac,Ab,Aa⟩:=Af;refine uc 2 k z λk=>Qbd m k z z z z z z λAh Ak a k m e Ag=>oE h λAi Ae h=>gl 6 [bA m 0 Ag z] k z λk=>cC k m call91 z (Qxr fu _ (Qac (m.r Ac) (m.r Ab) (m.r Aa)) Ae) λAl e a k m=>ul 5 k z λk=>fS h k m z z
theorem Qhc (fu) {w0} (Ab) {v2 F3} (Aa:rd w0 F3 [v2] Ab) {r} (h:Qcw fu Ab=some r):cL 254 [v2] w0 r:=by
 refine eg func254 z ntmps254 z λk m=>uc 9 k z λk=>?_;obtain ⟨Al,Af,Ae⟩:=Jj4 Aa;refine sv k z (Ae k underlying35 z z z) λa k=>ul 2 k z λk=>Jec (b:=Al) k z (λAc=>?_) (λAc=>?_)
 · have Ak:=Af Ac;rw [Ak] at h;have h:some (([]:List Int))=some r:=h;refine uc 7 k z λk=>?_;cases h;exact Qbj k z (RV.tmp k z) ⟨_,[],z,m.ext,(Qaw _),(by simp)⟩
 refine uc 4 k z λk=>sB Qbf m k z (by exact fN) λAq Ap Am a k m e Ad=>?_;have Ag:=Qai Ad ([]:List Int) z z z;refine pN 1 k z λa k=>oE h λAr Aj h=>Qcy Aj Qbf z m 0 Ag (News.rd (m.r Aa)) z z k z z z z z z z λAo Ai As a k e m Ah=>ul 4 k z λk=>?_;cases h;exact Qbj k z (RV.tmp k z) ⟨_,Ai,z,m.ext,(m.v Ah 0 z),(m.fresh 0 z)⟩
theorem Qt2 (fu:Nat) {w0:World} (x1:List Int) {v2:Value} {F3:List Nat} (Aa:ow w0 F3 [v2] x1) {r:List Int}
    (h:Qh1 fu x1=some r) :
    Calls Tryz.prog 255 #[v2] w0 λe w=>∃ (v0:Value) (G0:List Nat),e=.returned v0∧Ext F3 w0 w∧ow w G0 [v0] r∧(∀ b∈G0,b∈F3∨w0.heap.size≤b) :=
  Q38 (λblk off cap zs w=>Tryz.slices_Compact_int blk off cap zs w) (λp cap w=>Tryz.slices_Compact_int_empty p cap w) x1 Aa h
theorem Qxi (fu) {w0} (Ae) {v2 F3} (Ad:rd w0 F3 [v2] Ae) {r} (h:Qjb fu Ae=some r):cL 179 [v2] w0 r:=by
 refine eg func179 z ntmps179 z λk m=>oE h λx5 Ah h=>uc 8 k z λk=>sL k m call254 z (Qhc fu _ (m.r Ad) Ah) λw9 At Ak Ac k m=>oE h λAp Ag h=>ul 6 k z λk=>sC k call97 z (Qhr fu _ (m.v Ac 0 z) Ag) λAq Ar hR=>?_;obtain ⟨Ao,rfl,e,Ai,Ab⟩:=hR;refine ⟨_,z,λa k=>?_⟩;have m:=m.mut 0 z e _ (λb hb=>⟨Ai b hb,Enc.rd_lt (Enc.ow_rd Ab) b hb⟩) (Enc.ow_nd Ab);refine oE h λAv Al h=>ul 5 k z λk=>sC k call255 z (Qt2 fu _ (m.v Ab 0 z) Al) λAw As hR=>?_;obtain ⟨Au,Af,rfl,e,Aa,Am⟩:=hR;refine ⟨_,z,λa k=>?_⟩;have m:=m.mut 0 z e _ (λb hb=>⟨Am b hb,Enc.rd_lt (Enc.ow_rd Aa) b hb⟩) (Enc.ow_nd Aa);refine ul 4 k z λk=>?_;cases h;exact Qbj k z (RV.tmp k z) ⟨_,Af,z,m.ext,(m.v Aa 0 z),(m.fresh 0 z)⟩
theorem Q1a (fu) {w0} (r1) {Ak F3} (At:rd w0 F3 Ak r1) {r} (h:Qqt fu r1=some r):cL 110 [.agg Ak.toArray] w0 r:=by
 refine eg func110 z ntmps110 z λk m=>?_;obtain ⟨v5,F6,v7,F8,v9,Bv,rfl,rfl,Am,Aq,Ab⟩:=At;refine uc 2 k z λk=>Qbd m k z z z z z z λBq Ca a k m e Al=>oE h λBr Bd h=>gl 7 [bA m 0 Al z] k z λk=>cC k m call56 z (Qie fu _ (Qac (m.r Am) (m.r Aq) (m.r Ab)) Bd) λBw e a k m=>ul 3 k z λk=>cJ h k z (λh=>?_) λh=>?_
 · refine uc 7 k z λk=>?_;cases h;exact Qbj k z (RV.tmp k z) ⟨_,[],z,m.ext,(Qaw _),(by simp)⟩
 refine uc 4 k z λk=>sB Qbf m k z (by exact fN) λAp Ar Bk a k m e As=>?_;have Aw:=Qai As ([]:List Int) z z z;refine gl 13 [bF m 1 Al z,lF Ab] k z λk=>lG (λn a w=>∃ Ah Ae Ad Ag Ac,K 25 [(3,Ae),(11,v9),(12,I (r1.fV.length:Int)),(13,I Ac)] a∧St [] w0 w [(Ad,Ag)]∧ow Ag Ad [Ae] Ah∧Qgq fu r1 n Ah Ac=some r) ?_ fu ?_
 · rintro Bp a Bl ⟨Ah,Ae,Ad,Ag,Ac,k,m,Aj,h⟩;refine uc 6 k z λk=>cJ h k z (λh=>?_) λh=>?_
   · refine oE h λAa Ai h=>gc 8 [iF Ab Ai,eA (m.r Ab) Ai] k z λk=>Qaj m k zeroValue59 z z z z z λBt Bo a k m e Bh=>sT sizeOf59 m 0 Bh 0 k z z λCb a k e m Bf=>gl 6 [bF m 0 Bf z] k z λk=>sB Qbf m k z (by exact fC z fN) λBx Bz Bm a k m e Au=>?_;have Bc:=Qai Au ([Aa.fK]:List Int) z z z;refine oE h λAx Bj h=>Qcy Bj Qbf z m 2 Aj (News.rd (m.q Bc 0 z)) z z k z z z z z z z λAv Bg Az a k e m Bi=>ul 9 k z λk=>?_;exact ⟨_,_,_,_,_,k.p z,m.sl [2] z,Bi,h⟩
   refine oE h λBs Be h=>uc 8 k z λk=>sL k m call179 z (Qxi fu _ (m.q Aj 0 z) Be) λBn Bu Ao Af k m=>ul 4 k z λk=>?_;cases h;exact Qbj k z (RV.tmp k z) ⟨_,Ao,z,m.ext,(m.v Af 0 z),(m.fresh 0 z)⟩
 exact ⟨_,_,_,_,_,k.p z,m.sl [0] z,Aw,h⟩
theorem Q24 (fu) {w0} (Ac a5 b6) {v2 F3} (Ab:rd w0 F3 [v2] Ac) {r} (h:Qr7 fu Ac a5 b6=some r):cS 183 [v2,I a5,I b6] w0 (.bool (r)):=by
 refine eg func183 z ntmps183 z λk m=>oE h λx7 Ae h=>uc 10 k z λk=>cC k m call229 z (Qpc fu _ _ _ (m.r Ab) Ae) λAf e a k m=>pN 1 k z λa k=>bS h k 11 z (λ_ h k=>?_) λ_ h k=>?_
 · refine pN 3 k z λa k=>oE h λAh Ad h=>cC k m call229 z (Qpc fu _ _ _ (m.r Ab) Ad) λAg e a k m=>ul 5 k z λk=>fS h k m z z
 refine ul 9 k z λk=>fS h k m z z
theorem Qwp (fu) {w0} (x1 x2 x8) {v5 F6 b3} (Aa:bx w0 b3 [v5] 51) (Ab:rd w0 F6 [v5] x2) {b9} (Ac:bx w0 b9 [I x8] 3) {r} (h:Qke fu x1 x2 x8=some r):cS 182 [I x1,pt b3,pt b9] w0 (.bool (r)):=by
 refine eg func182 z ntmps182 z λk m=>oE h λAf Ad h=>gc 10 [pF (r:=[]) (Aa.at (m.a00 Aa.lt1) 0 1 z z z),pF (r:=[]) (Ac.at (m.a00 Ac.lt1) 0 1 z z z)] k z λk=>cC k m call183 z (Q24 fu _ _ _ (m.r Ab) Ad) λAe e a k m=>ul 5 k z λk=>fS h k m z z
theorem Qkn (fu) {w0} (Aa f5) {v2 F3} (Ab:rd w0 F3 [v2] Aa) {v6} (Ah:Qvt Tryz.prog w0 v6 f5) {r} (h:Qdk fu Aa f5=some r):cS 250 [v2,v6] w0 (I r):=by
 refine eg func250 z ntmps250 z λk m=>?_;obtain ⟨Af,Aj,rfl,Ak,Ae⟩:=Ah;refine gc 14 [lF Ab] k z λk=>lG (λn a w=>∃ Ac,K 19 [(0,v2),(1,(.func (.func Af) #[] Aj.toArray)),(7,I (Aa.length:Int)),(8,I Ac)] a∧St [] w0 w []∧Qb5 fu Aa f5 n Ac=some r) ?_ fu ?_
 · rintro Ap a Aq ⟨Ac,k,m,h⟩;refine uc 6 k z λk=>cJ h k z (λh=>?_) λh=>?_
   · refine o2 h λAm Ad Ao Ai h=>gc 17 [iF Ab Ad,eF (m.r Ab) Ad 0] k z λk=>Qty k Ak z z z z z z (Ae _ _ _ _ m.ext z Ai) λAs Ar hR=>?_;obtain ⟨rfl,e⟩:=hR;refine ⟨_,z,λa k=>?_⟩;have m:=m.step e;refine ul 2 k z λk=>cJ h k z (λh=>?_) λh=>?_
     · refine uc 12 k z λk=>fS h k m z z
     refine uc 8 k z λk=>?_;exact ⟨_,k.p z,m.sl [] z,h⟩
   refine uc 11 k z λk=>fS h k m z z
 exact ⟨_,k.p z,m.sl [] z,h⟩
theorem Qre (fu) {w0} (Aa f5) {v2 F3} (Ab:rd w0 F3 [v2] Aa) {v6} (Af:Qvt Tryz.prog w0 v6 f5) {r} (h:Qd1 fu Aa f5=some r):cS 174 [v2,v6] w0 (.bool (r)):=by
 refine eg func174 z ntmps174 z λk m=>?_;obtain ⟨Aj,Al,rfl,Ag,Ad⟩:=Af;refine oE h λAi Ah h=>uc 9 k z λk=>cC k m call250 z (Qkn fu _ _ (m.r Ab) ⟨_,_,z,Ag,λw Ae Ac r e=>Ad w Ae Ac r (m.ext.trans e (by simp))⟩ Ah) λAk e a k m=>ul 5 k z λk=>fS h k m z z
theorem Qzs (fu) {w0} (l1 x5 Ab) {v2 F3} (Ac:rd w0 F3 [v2] l1) {v8 F9 b6} (Ae:bx w0 b6 [v8] 51) (Af:rd w0 F9 [v8] x5) {Aa} (Ad:bx w0 Aa [I Ab] 3) {r} (h:Qo4 fu l1 x5 Ab=some r):cS 181 [v2,pt b6,pt Aa] w0 (.bool (r)):=by
 refine eg func181 z ntmps181 z λk m=>oE h λAi Ag h=>uc 9 k z λk=>cC k m call174 z (Qre fu _ _ (m.r Ac) ⟨182,[pt b6,pt Aa],z,call182,λw Ak Aj r e Ah hx=>by subst Ah; have m:=m.step e; exact Qwp fu _ _ _ (Ae.agr (m.a00 Ae.lt1) (by simp)) (m.r Af) (Ad.agr (m.a00 Ad.lt1) (by simp)) hx⟩ Ag) λAl e a k m=>pN 2 k rfl λa k=>ul 3 k z λk=>fS h k m rfl rfl
theorem Qja (fu) {w0} (Aa f5) {v2 F3} (Ab:rd w0 F3 [v2] Aa) {v6} (Aj:Qvt Tryz.prog w0 v6 f5) {r} (h:Qc4 fu Aa f5=some r):cS 180 [v2,v6] w0 (I r):=by
 refine eg func180 z ntmps180 z λk m=>?_;obtain ⟨Aq,Ag,rfl,Ak,Am⟩:=Aj;refine gc 14 [lF Ab] k z λk=>lG (λn a w=>∃ Ac,K 19 [(0,v2),(1,(.func (.func Aq) #[] Ag.toArray)),(7,I (Aa.length:Int)),(8,I Ac)] a∧St [] w0 w []∧Qbv fu Aa f5 n Ac=some r) ?_ fu ?_
 · rintro Aw a Ay ⟨Ac,k,m,h⟩;refine uc 6 k z λk=>cJ h k z (λh=>?_) λh=>?_
   · refine oE h λAr Ae h=>gc 16 [iF Ab Ae] k z λk=>?_;obtain ⟨Av,Ah,Au,Ad,Af,Ap⟩:=Qaz Ab (Qah Ae).2.2;obtain ⟨Ax,rfl⟩:∃ v,Ah=[v]:=by obtain ⟨_,_,hq,_⟩:=Ad; exact ⟨_,hq⟩
     refine oE h λAs Ao h=>gl 1 [pF (Af.agr (m.a00 (Enc.rd_lt Ab)) Ap)] k z λk=>Qty k Ak z z z z z z (Am _ _ _ _ m.ext ⟨_,(m.r Ad)⟩ Ao) λAz At hR=>?_;obtain ⟨rfl,e⟩:=hR;refine ⟨_,z,λa k=>?_⟩;have m:=m.step e;refine ul 2 k z λk=>cJ h k z (λh=>?_) λh=>?_
     · refine uc 12 k z λk=>fS h k m z z
     refine uc 8 k z λk=>?_;exact ⟨_,k.p z,m.sl [] z,h⟩
   refine uc 11 k z λk=>fS h k m z z
 exact ⟨_,k.p z,m.sl [] z,h⟩
theorem Q2x (fu) {w0} (Aj Bk) {v2 F3} (Aw:rd w0 F3 [v2] Aj) {v6 F7} (Bl:rd w0 F7 [v6] Bk) {r} (h:Qr3 fu Aj Bk=some r):cL 109 [v2,v6] w0 r:=by
 refine eg func109 z ntmps109 z λk m=>uc 2 k z λk=>Qbd m k z z z z z (Qid Aw) λb9 As a k m e Dp=>ul 5 k z λk=>sB Qve m k z (by exact fN) λBd Cq Fp a k m e Co=>?_;have Bv:=Qru (α:=List Int) Co;refine oE h λAr By h=>ul 7 k z λk=>sL k m call179 z (Qxi fu _ (m.r Bl) By) λAt Bj Ai Ah k m=>gl 5 [lF (Enc.ow_rd Ah)] k z λk=>lG (λn a w=>∃ Ag Ae Ac Am Af,K 42 [(2,pt b9),(5,Ae),(11,Bj),(12,I (Ar.length:Int)),(13,I Af)] a∧St [] w0 w [([b9],As),(Ai,At),(Ac,Am)]∧ow Am Ac [Ae] Ag∧Qeo fu Aj Ar n Ag Af=some r) ?_ fu ?_
 · rintro Ec a Eu ⟨Ag,Ae,Ac,Am,Af,k,m,Aa,h⟩;refine uc 6 k z λk=>cJ h k z (λh=>?_) λh=>?_
   · refine uc 2 k z λk=>cg (λa w=>∃ Ak Ao Ap Al,K 42 [(2,pt b9),(5,Ao),(11,Bj),(12,I (Ar.length:Int)),(13,I Af)] a∧St [] w0 w [([b9],As),(Ai,At),(Ap,Al)]∧ow Al Ap [Ao] Ak∧Qio fu (Qeo fu Aj Ar Ec) Af Ak=some r) ?_ ?_
     · rintro a Fq ⟨Ak,Ao,Ap,Al,k,m,Ea,h⟩;refine uc 5 k z λk=>?_;exact ⟨_,_,_,_,_,k.p z,m.sl [0,1,2] z,Ea,h⟩
     refine oE h λAd Bb h=>gc 5 [iF (Enc.ow_rd Ah) Bb,eF (m.q Ah 1 z) Bb 0] k z λk=>Qaj m k zeroValue3 z z z z z λAx Fm a k m e Dw=>sT sizeOf3 m 0 Dw 0 k z z λBg a k e m Aq=>oE h λGc Ca h=>gl 6 [bF m 0 Aq z] k z λk=>cC k m call68 z (Qax fu _ _ _  Ca) λFv e a k m=>ul 3 k z λk=>cJ h k z (λh=>?_) λh=>?_
     · refine uc 4 k z λk=>?_;exact ⟨_,_,_,_,k.p z,m.sl [1,2,3] z,Aa,h⟩
     refine oE h λBf Dm h=>uc 6 k z λk=>cC k m call180 z (Qja fu _ _ (m.q Aa 3 z) ⟨181,[pt b9,pt Ax],z,call181,λw Ei Ff r e Av hx=>by obtain ⟨_,Av⟩:=Av; have m:=m.step e; exact Qzs fu _ _ _ Av (m.y Dp 1 z) (m.r Aw) (m.y Aq 0 z) hx⟩ Dm) λEj e a k m=>ul 9 k z λk=>cJ h k z (λh=>?_) λh=>?_
     · refine gc 3 [bF m 0 Aq z] k z λk=>sB Qbf m k z (by exact fC z fN) λBe Ep Gb a k m e Dc=>?_;have Ba:=Qai Dc ([Ad]:List Int) z z z;refine sB Qve m k z (by exact (List.forall_mem_cons.2 ⟨congrArg Array.size (Qid (Enc.ow_rd Ba)),fN⟩)) λFw Ft Fu a k m e Cl=>oE h λCc Cw h=>?_;have Du:=Enc.ow_agr Ba (m.a 1 z);have Dn:=News.box Cl (m.a 0 z) (by simp) (m:=1);have Cb:=m.a 5 z;have m:=m.sl [5,1,0,2,3,4] z;have m:=m.join2;refine Qgf (F:=Ac) (G:=[Be]) Cw Qve z m Aa Cb Dn Du (Agr.refl _ _) k z z z z z z λCi Cm Db a k e m Ee=>ul 4 k z λk=>?_;exact ⟨_,_,_,_,k.p z,m.sl [3,4,0] z,Ee,h⟩
     refine Qgu (Ac) Qge m z λEb hMd=>?_;have m:=hMd;have s:=Ext.refl ((Ac):List Nat) Eb;refine dM [0,1,2,3] 4 z k z s λa k=>oE h λFe Ab h=>dT k 4 z z s (λw s=>Qci (Enc.ow_rd Aa) Ab k Q8k z z z) λa k=>?_;obtain ⟨Ez,Cn,Eh,Dj,Fz,Fl⟩:=Qaz (Enc.ow_rd Aa) (Qah Ab).2.2;obtain ⟨Fd,rfl⟩:∃ v,Cn=[v]:=by obtain ⟨_,_,hq,_⟩:=Dj; exact ⟨_,hq⟩
     refine dT k 6 z z s (λw s=>Qcc t13 (r:=[]) (Aq.at (hMd.az 0 3 z z z s) 0 1 z z z) k z z) λa k=>?_;obtain ⟨Fy,Dh,Gi,Ef,Fi,Gg⟩:=Qaz (Enc.ow_rd Aa) (Qah Ab).2.2;obtain ⟨Fc,rfl⟩:∃ v,Dh=[v]:=by obtain ⟨_,_,hq,_⟩:=Ef; exact ⟨_,hq⟩
     refine dG2 5 7 (by kernel_rfl) z z ?_ ?_ 
     · obtain ⟨Gh,Cx,Gk,Bx,Bi,Ct⟩:=Qaz (Enc.ow_rd Aa) (Qah Ab).2.2;obtain ⟨Gf,rfl⟩:∃ v,Cx=[v]:=by obtain ⟨_,_,hq,_⟩:=Bx; exact ⟨_,hq⟩
       refine gl 1 [pF (Bi.agr (m.a 3 z) Ct)] k z λk=>wpList_nil ⟨s,?_⟩;refine dG 7 z (Qbw Qbf m k z z z z z z z (by decide) z (by exact fC z fN) λEg Cz Fg a k m e Dt Cu=>?_);have Fs:=lo1 (Nat.le_trans s.size Cu);have Dk:=Qai Dt ([Ad]:List Int) z z z;refine ns s e λs=>dG 8 z ?_;obtain ⟨Fk,Fj,m,Cj,Df,Da,Bc⟩:=m.opnS 4 z Aa Ab Bi z (M':=[([Eg],Cz),([Ax],Bg),([b9],As),(Ai,At)]) z;refine oE h λDg Bn h=>Qap Bn Qbf z m 1 Df (News.rd (m.q Dk 2 z)) z z k z z z z z z z λCk Bw Ev a k e m Au De=>?_;have Gj:∀ y∈Bw,y∈(Ac)∨_≤y:=λy hy=>(De y hy).elim (λhy=>(λy hy=>(λy hy=>Or.inl hy) y (Bc y hy)) y hy) (λh=>Or.inr (Nat.le_trans s.size h));have s:=s.trans e (λy hy=>(λy hy=>Or.inl hy) y (Bc y hy));refine wpList_nil ⟨s,?_⟩;refine oE h λEn Ex h=>dT k 9 z z s (λw s=>Qci (Enc.ow_rd Aa) Ab k Q8k z z z) λa k=>dG 10 z (Quo (α:=List Int) (sz:=1) (cs':=[Ck]) sizeOf35 m 0 Cj 0 k (Qid (Enc.ow_rd Au)) (Qed (Enc.ow_rd Au)) z z z z z z z z z z λDd a k e m Bo=>?_);obtain ⟨Br,m,Bq⟩:=(m.sl [0,1,2,3,4,5] z).cls Bo Au;have s:=s.trans e (λy hy=>(λy hy=>Or.inl hy) y (Da y hy));refine wpList_nil ⟨s,?_⟩;refine dD ?_;refine (ue 2 k z λk=>?_);exact ⟨_,_,_,_,k.p z,m.sl [3,4,0] z,Bq,h⟩
     refine Qbw Qbf m k z z z z z z z (by decide) z (by exact fC z fN) λDy Cd Et a k m e Cs Cv=>?_;have Er:=lo1 (Nat.le_trans s.size Cv);have Dr:=Qai Cs ([Ad]:List Int) z z z;refine ns s e λs=>?_;obtain ⟨Ew,Bu,Es,Ch,Ek,Fh⟩:=Qaz (Enc.ow_rd Aa) (Qah Ab).2.2;obtain ⟨El,rfl⟩:∃ v,Bu=[v]:=by obtain ⟨_,_,hq,_⟩:=Ch; exact ⟨_,hq⟩
     refine dG 5 z ?_;obtain ⟨Gl,Cg,Fa,Bt,Bh,Do⟩:=Qaz (Enc.ow_rd Aa) (Qah Ab).2.2;obtain ⟨Ey,rfl⟩:∃ v,Cg=[v]:=by obtain ⟨_,_,hq,_⟩:=Bt; exact ⟨_,hq⟩
     refine gl 1 [pF (Bh.agr (m.a 4 z) Do)] k z λk=>wpList_nil ⟨s,?_⟩;refine dG 8 z ?_;obtain ⟨Eo,Fb,m,Ds,Bs,Dq,Az⟩:=m.opnS 4 z Aa Ab Bh z (M':=[([Dy],Cd),([Ax],Bg),([b9],As),(Ai,At)]) z;refine oE h λBp Ce h=>Qap Ce Qbf z m 1 Bs (News.rd (m.q Dr 2 z)) z z k z z z z z z z λDz Dx Ga a k e m Ay Cr=>?_;have Fn:∀ y∈Dx,y∈(Ac)∨_≤y:=λy hy=>(Cr y hy).elim (λhy=>(λy hy=>(λy hy=>Or.inl hy) y (Az y hy)) y hy) (λh=>Or.inr (Nat.le_trans s.size h));have s:=s.trans e (λy hy=>(λy hy=>Or.inl hy) y (Az y hy));refine wpList_nil ⟨s,?_⟩;refine oE h λGd Ge h=>dT k 9 z z s (λw s=>Qci (Enc.ow_rd Aa) Ab k Q8k z z z) λa k=>dG 10 z (Quo (α:=List Int) (sz:=1) (cs':=[Dz]) sizeOf35 m 0 Ds 0 k (Qid (Enc.ow_rd Ay)) (Qed (Enc.ow_rd Ay)) z z z z z z z z z z λBz a k e m Di=>?_);obtain ⟨Dl,m,Ed⟩:=(m.sl [0,1,2,3,4,5] z).cls Di Ay;have s:=s.trans e (λy hy=>(λy hy=>Or.inl hy) y (Dq y hy));refine wpList_nil ⟨s,?_⟩;refine dD ?_;refine (ue 2 k z λk=>?_);exact ⟨_,_,_,_,k.p z,m.sl [3,4,0] z,Ed,h⟩
   refine uc 12 k z λk=>?_;cases h;exact Qbj k z (RV.tmp k z) ⟨_,Ac,z,m.ext,(m.v Aa 2 z),(m.fresh 2 z)⟩
 exact ⟨_,_,_,_,_,k.p z,m.sl [2,0,1] z,Bv,h⟩
end Go.Proofs.YthkaklkinepfkaaGreatDoor
