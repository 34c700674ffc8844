/- FnTop: the walks of .. -/
import Derived.Test.YtdgpkmgnjdpieaaGreatDoorTopBT
set_option maxRecDepth 20000
set_option linter.unusedSimpArgs false
set_option linter.unusedVariables false
set_option linter.unnecessarySimpa false
namespace Go.Proofs.YtdgpkmgnjdpieaaGreatDoor
open Go Go.RowKit
open Enc (rd ow)
open Arg (argv)
open Ret (retv)
open Go.Proofs.Tryz
theorem Xj {fu N D A r} (h:Mr fu D A=some r):cL 30 [.string (D),.int .u8 (A)] N r:=by
 refine eg func30 z ntmps30 z λk m=>uc 7 k z λk=>sB XA m k z (by exact fN) λ_ _ _ a k m e E=>?_;have U:=AO E ([]:List ByteArray) z z z;refine ul 15 k z λk=>lG (λn a w=>∃ M O L Q J E,K 35 [(0,.string (D)),(1,.int .u8 (A)),(5,O),(6,I J),(7,I E)] a∧St [] N w [(L,Q)]∧ow Q L [O] M∧JF fu D A n M J E=some r) ?_ fu ?_
 · rintro V a _ ⟨M,O,L,Q,J,E,k,m,T,h⟩;refine uc 5 k z λk=>sv k z (cz k underlying9 z z) λa k=>lJ 3 h k z (λh k=>?_) λh k=>?_
   · refine uc 2 k z λk=>cg (λa w=>∃ O J M L Q,K 35 [(0,.string (D)),(1,.int .u8 (A)),(5,J),(6,I Q),(7,I E)] a∧St [] N w [(M,L)]∧ow L M [J] O∧R3 fu (JF fu D A V) E O Q=some r) ?_ ?_
     · rintro a _ ⟨O,J,M,L,Q,k,m,A,h⟩;exact uc 6 k z λk=>⟨_,_,_,_,_,_,k.p z,m.f z,A,h⟩
     refine oE h λ_ A h=>uc 5 k z λk=>sv k z (l3 A k underlying9 z z z) λa k=>lJ 4 h k z (λh k=>?_) λh k=>?_
     · refine oE h λE A h=>uc 6 k z λk=>sv k z (s4 A k underlying9 z z z z) λa k=>sB XA m k z (by exact fC z fN) λ_ _ _ a k m e A=>?_;have D:=AO A ([E]:List ByteArray) z z z;exact oE h λ_ A h=>BX A XA z m 1 T (News.rd (m.q D 0 z)) z z k z z z z z z z λ_ _ _ a k e m A=>ul 10 k z λk=>⟨_,_,_,_,_,k.p z,m.sl [1] z,A,h⟩
     exact uc 3 k z λk=>⟨_,_,_,_,_,k.p z,m.f z,T,h⟩
   refine oE h λA D h=>uc 10 k z λk=>sv k z (wn D k underlying9 z z z) λa k=>sB XA m k z (by exact fC z fN) λ_ _ _ a k m e E=>?_;have D:=AO E ([A]:List ByteArray) z z z;exact oE h λ_ A h=>BX A XA z m 1 T (News.rd (m.q D 0 z)) z z k z z z z z z z λ_ _ _ a k e m A=>ul 4 k z λk=>fL h k m A 1 z z
 exact ⟨_,_,_,_,_,_,k.p z,m.f z,U,h⟩
theorem gA {fu:Nat} {A:World} {E:ByteArray} {r:Int×Bool} (h:XI fu E=some r) (O:Te Tryz.prog A):
    Calls Tryz.prog 226 #[.string E] A λe w=>∃ (D:Value),e=.returned (.tuple #[I r.1,D])∧Ext [] A w∧isErr D r.2 :=
  xA (λs A v D w=>Tryz.strconv_Atoi_ok s A v D w) (λs A D J p w M=>(Tryz.strconv_Atoi_syntax_var s A D J p w M).mono λe w ⟨n,N,_,_,L⟩=>⟨_,_,N,L⟩) (λs A D J p w M=>(Tryz.strconv_Atoi_range_var s A D J p w M).mono λe w ⟨n,N,_,_,L⟩=>⟨_,_,N,L⟩) O E h
theorem BA {fu E n1 A D r} (h:A8 fu n1 A D=some r):cS 91 [I n1,I A,I D] E (.bool (r)):=by
 refine eg func91 z ntmps91 z λk m=>uc 11 k z λk=>bT h k 10 z (λh k=>?_) λh k=>?_
 · refine ul 8 k z λk=>fS h k m z z
 refine ul 8 k z λk=>fS h k m z z
theorem fq {fu:Nat} {A:World} {D:Int} {r:ByteArray} (h:Xv fu D=some r) (E:Te Tryz.prog A):
    Calls Tryz.prog 167 #[I D] A λe w=>e=.returned (.string r)∧Ext [] A w :=
  wJ (λn A L w J=>Tryz.strconv_Itoa n A L w J) E.t D h
theorem ZY {fu A n1 r} (h:RF fu n1=some r) (D:Te Tryz.prog A):cS 94 [I n1] A (.string (r)):=by
 refine eg func94 z ntmps94 z λk m=>oE h λ_ A h=>uc 8 k z λk=>cC k m call167 z (fq A (m.te D)) λ_ e a k m=>ul 4 k z λk=>fS h k m z z
theorem iK {fu A D r} (h:K5 fu D=some r) (J:Te Tryz.prog A):cS 166 [.string (D)] A (.tuple #[I r.1,.bool (r.2)]):=by
 refine eg func166 z ntmps166 z λk m=>oE h λE D h=>uc 9 k z λk=>sC k call226 z (gA D (m.te J)) λ_ _ L=>?_;obtain ⟨_,rfl,e,D⟩:=L;refine ⟨_,z,λa k=>?_⟩;have m:=m.step e;refine ul 7 k z λk=>cg (λa w=>K 25 [(4,I E.1)] a∧St [] A w []∧VN fu E=some r) ?_ ?_
 · rintro a _ ⟨k,m,h⟩;refine uc 8 k z λk=>?_;cases h;exact B4 k z (RV.tmp k z) (RV.tmp k z) ⟨z,m.ext⟩
 refine uc 3 k z λk=>sv k z (y7 D k AQ z z z) λa k=>pN 1 k z λa k=>bT h k 13 z (λh k=>?_) λh k=>?_
 · refine ul 21 k z λk=>?_;cases h;exact B4 k z (RV.tmp k z) (RV.tmp k z) ⟨z,m.ext⟩
 refine pN 1 k z λa k=>oE h λ_ A h=>cC k m call91 z (BA A) λ_ e a k m=>pN 3 k z λa k=>bT h k 18 z (λh k=>?_) λh k=>?_
 · refine ul 16 k z λk=>?_;cases h;exact B4 k z (RV.tmp k z) (RV.tmp k z) ⟨z,m.ext⟩
 refine pN 1 k z λa k=>oE h λ_ A h=>cC k m call94 z (ZY A (m.te J)) λ_ e a k m=>lJ 5 h k z (λh k=>?_) λh k=>?_
 · refine uc 8 k z λk=>?_;cases h;exact B4 k z (RV.tmp k z) (RV.tmp k z) ⟨z,m.ext⟩
 exact uc 2 k z λk=>⟨k.p z,m.f z,h⟩
theorem KC {fu A J E D r} (h:B6 fu J E D=some r) (Y:Te Tryz.prog A):Calls Tryz.prog 90 #[.string (J),.string (E),I D] A λe w=>∃ (D:Value) (E:List Nat),e=.returned (.tuple #[D,.bool (r.2)])∧Ext [] A w∧ow w E [D] r.1∧(∀ b∈E,A.heap.size≤b):=by
 refine eg (vs:=[_,_,_]) func90 z ntmps90 z λk m=>oE h λE D h=>uc 9 k z λk=>sL k m call30 z (Xj D) λT J Q D k m=>ul 3 k z λk=>cg (λa w=>K 49 [(8,J)] a∧St [] A w [(Q,T)]∧TY fu E=some r) ?_ ?_
 · rintro a _ ⟨k,m,h⟩;refine uc 2 k z λk=>sB AV m k z (by exact fN) λ_ _ _ a k m e E=>?_;have Z:=AO E ([]:List Int) z z z;refine oE h λU E h=>ul 7 k z λk=>cn D E k uq z z z z z z λV a k L=>gl 5 [lF (Enc.ow_rd L)] k z λk=>lG (λn a w=>∃ O M E N J,K 49 [(9,M),(30,V),(31,I (U.length:Int)),(32,I J)] a∧St [] A w [(Q,T),(E,N)]∧ow N E [M] O∧GR fu U n O J=some r) ?_ fu ?_
   · rintro _ a _ ⟨O,M,E,N,J,k,m,A,h⟩;refine uJ 6 h k z (λh k=>?_) λh k=>?_
     · refine o2 h λ_ J M N h=>gc 14 [iF (Enc.ow_rd L) J,eF (m.q L 0 z) J 0] k z λk=>cC k m call166 z (iK N (m.te Y)) λ_ e a k m=>lJ 14 h k z (λh k=>?_) λh k=>?_
       · refine uc 13 k z λk=>?_;cases h;exact B4 k z (RV.tmp k z) (RV.tmp k z) ⟨_,[],z,m.ext,(A0 _),AD⟩
       refine uc 5 k z λk=>sB AV m k z (by exact fC z fN) λ_ _ _ a k m e L=>?_;have J:=AO L ([M.1]:List Int) z z z;exact oE h λ_ L h=>BX L AV z m 2 A (News.rd (m.q J 0 z)) z z k z z z z z z z λ_ _ _ a k e m J=>ul 9 k z λk=>⟨_,_,_,_,_,k.p z,m.sl [1,2] z,J,h⟩
     refine uc 13 k z λk=>?_;cases h;exact B4 k z (RV.tmp k z) (RV.tmp k z) ⟨_,E,z,m.ext,(m.v A 1 z),(m.fresh 1 z)⟩
   exact ⟨_,_,_,_,_,k.p z,m.sl [1,0] z,Z,h⟩
 refine oE h λ_ A h=>gc 8 [iF (Enc.ow_rd D) A,eF (m.q D 0 z) A 0] k z λk=>bT h k 21 z (λh k=>?_) λh k=>?_
 · refine ul 17 k z λk=>?_;cases h;exact B4 k z (RV.tmp k z) (RV.tmp k z) ⟨_,[],z,m.ext,(A0 _),AD⟩
 refine hJ 8 [lF (Enc.ow_rd D)] h k z (λh k=>?_) λh k=>?_
 · refine uc 8 k z λk=>?_;cases h;exact B4 k z (RV.tmp k z) (RV.tmp k z) ⟨_,[],z,m.ext,(A0 _),AD⟩
 exact uc 2 k z λk=>⟨k.p z,m.f z,h⟩
theorem gR {fu O A Cq F2 J r} (h:UG fu A Cq=some r) (Ey:obx O F2 J A 37) (hT:∀ w1,Ext F2 O w1→Te Tryz.prog w1):Calls Tryz.prog 31 #[.pointer (some ⟨J,0,none⟩),.string (Cq)] O λe w=>∃ (H0:List Nat),e=.returned (I r.1)∧Ext F2 O w∧(∀ b∈H0,b∈F2∨O.heap.size≤b)∧obx w H0 J r.2 37:=by
 refine eg (vs:=[_,_]) func31 z ntmps31 z λk _=>?_;obtain ⟨v6,U,v9,Q,Aj,T,N,Y,Z,V,m⟩:=Ey.start;refine uJ 18 h k z (λh k=>?_) λh k=>?_
 · refine uc 5 k z λk=>sT sizeOf3 m 0 N 0 k z z λ_ a k e m O=>ul 10 k z λk=>?_;cases h;exact C7 k z (RV.tmp k z) ⟨([J]++(U++(Q++T))),z,m.ext,(λb L=>(m.sl [0,1,2,3] z).lo b (by simpa [EC] using L)),(obx.fin (x:=(⟨0,A.fJ,A.fR,A.fT,A.fG,A.fP,A.fU⟩:Request)) (m.y O 0 z) (m.v Y 1 z) (m.v Z 2 z) (m.v V 3 z) (by simpa [EC] using (m.sl [0,1,2,3] z).nd))⟩
 refine uJ 6 h k z (λh k=>?_) λh k=>?_
 · refine uc 5 k z λk=>sT sizeOf3 m 0 N 0 k z z λ_ a k e m O=>ul 10 k z λk=>?_;cases h;exact C7 k z (RV.tmp k z) ⟨([J]++(U++(Q++T))),z,m.ext,(λb L=>(m.sl [0,1,2,3] z).lo b (by simpa [EC] using L)),(obx.fin (x:=(⟨1,A.fJ,A.fR,A.fT,A.fG,A.fP,A.fU⟩:Request)) (m.y O 0 z) (m.v Y 1 z) (m.v Z 2 z) (m.v V 3 z) (by simpa [EC] using (m.sl [0,1,2,3] z).nd))⟩
 refine oE h λ_ O h=>uc 7 k z λk=>sC k call90 z (KC O (hT _ m.ext)) λ_ _ hR=>?_;obtain ⟨_,_,rfl,e,O,Dc⟩:=hR;refine ⟨_,z,λa k=>?_⟩;have m:=m.nw e Dc O;refine lJ 12 h k z (λh k=>?_) λh k=>?_
 · refine uc 1 k z λk=>dI ([J]) m z λM m s=>dM [0,1,4,7,10] 5 z k z s λa k=>oE h λBm Cs h=>dT k 2 z z s (λw s=>BK (Enc.ow_rd O) Cs k FX z z z) λa k=>dT k 3 z z s (λw s=>CI (Enc.ow_rd O) (M.az 0 1 z z z s) Cs 0 GP k z z z z) λa k=>oE h λBe Ci h=>dT k 5 z z s (λw s=>BK (Enc.ow_rd O) Ci k FX z z z) λa k=>dT k 6 z z s (λw s=>CI (Enc.ow_rd O) (M.az 0 1 z z z s) Ci 0 GP k z z z z) λa k=>oE h λBi Bt h=>dT k 8 z z s (λw s=>BK (Enc.ow_rd O) Bt k FX z z z) λa k=>dT k 9 z z s (λw s=>CI (Enc.ow_rd O) (M.az 0 1 z z z s) Bt 0 GP k z z z z) λa k=>oE h λBk Bq h=>dT k 11 z z s (λw s=>BK (Enc.ow_rd O) Bq k FX z z z) λa k=>dT k 12 z z s (λw s=>CI (Enc.ow_rd O) (M.az 0 1 z z z s) Bq 0 GP k z z z z) λa k=>dT k 13 z z s (λw s=>AN u4 k (cs:=#[I Bm,I Be,I Bi,I Bk]) (ps:=[(0,.tmp 37),(1,.tmp 40),(2,.tmp 43),(3,.tmp 46)]) z z AQ) λa k=>dT k 14 z z s (λw s=>KW k z z) λa k=>?_;refine dF k 15 kR z s λa k=>dG 16 z (sT sizeOf32 m 1 N 1 k z z λ_ a k e m O=>?_);refine nt iL s e λs=>dD ?_;refine (AF ?_);refine uc 7 k z λk=>?_;cases h;exact C7 k z (RV.tmp k z) ⟨([J]++(U++(Q++T))),z,m.ext,(λb L=>(m.sl [1,2,3,4] z).lo b (by simpa [EC] using L)),(obx.fin (x:=(⟨A.fc,(⟨Bm,Be,Bi,Bk⟩:Pallet),A.fR,A.fT,A.fG,A.fP,A.fU⟩:Request)) (m.y O 1 z) (m.v Y 2 z) (m.v Z 3 z) (m.v V 4 z) (by simpa [EC] using (m.sl [1,2,3,4] z).nd))⟩
 refine oE h λ_ O h=>uc 6 k z λk=>sC k call90 z (KC O (hT _ m.ext)) λ_ _ hR=>?_;obtain ⟨_,_,rfl,e,O,Dz⟩:=hR;refine ⟨_,z,λa k=>?_⟩;have m:=m.nw e Dz O;refine lJ 12 h k z (λh k=>?_) λh k=>?_
 · refine oE h λCb By h=>gc 8 [iF (Enc.ow_rd O) By,eF (m.q O 0 z) By 0] k z λk=>sT sizeOf3 m 2 N 5 k z z λ_ a k e m O=>ul 9 k z λk=>?_;cases h;exact C7 k z (RV.tmp k z) ⟨([J]++(U++(Q++T))),z,m.ext,(λb L=>(m.sl [2,3,4,5] z).lo b (by simpa [EC] using L)),(obx.fin (x:=(⟨A.fc,A.fJ,Cb,A.fT,A.fG,A.fP,A.fU⟩:Request)) (m.y O 2 z) (m.v Y 3 z) (m.v Z 4 z) (m.v V 5 z) (by simpa [EC] using (m.sl [2,3,4,5] z).nd))⟩
 refine oE h λ_ O h=>uc 6 k z λk=>sC k call90 z (KC O (hT _ m.ext)) λ_ _ hR=>?_;obtain ⟨_,_,rfl,e,O,Ds⟩:=hR;refine ⟨_,z,λa k=>?_⟩;have m:=m.nw e Ds O;refine lJ 12 h k z (λh k=>?_) λh k=>?_
 · refine uc 1 k z λk=>dI (U++([J])) m z λM m s=>?_;have D:=(M.sel [4,3,0,1,2,5,6] z A1).join2;refine dM [0,1,5,8] 4 z k z s λa k=>dT k 2 z z s (λw s=>KW k z z) λa k=>dF k 3 TP z s λa k=>oE h λAq Bo h=>dT k 6 z z s (λw s=>BK (Enc.ow_rd O) Bo k FX z z z) λa k=>dT k 7 z z s (λw s=>CI (Enc.ow_rd O) (D.az 1 0 z z z s) Bo 0 GP k z z z z) λa k=>oE h λAt Ck h=>dT k 9 z z s (λw s=>BK (Enc.ow_rd O) Ck k FX z z z) λa k=>dT k 10 z z s (λw s=>CI (Enc.ow_rd O) (D.az 1 0 z z z s) Ck 0 GP k z z z z) λa k=>dT k 11 z z s (λw s=>AN fp k (cs:=#[I Aq,I At]) (ps:=[(0,.tmp 75),(1,.tmp 78)]) z z AQ) λa k=>Vr 4 12 AQ z z ?_ ?_
   · refine gl 1 [bF m 3 N z] k z λk=>wpList_nil ⟨s,?_⟩;refine dG 12 z (BD aW m k z z z z z z z A1 z (by exact fC z fN) λ_ _ _ a k m e Ep O=>?_);have Hg:=s.lo O;have Cz:=AO Ep ([(⟨Aq,At⟩:Pair)]:List Pair) z z z;refine ns s e λs=>dG 13 z (oE h λDi O h=>AZ O aW z m 5 Y (News.rd (m.q Cz 0 z)) z z k z z z z z z z λEm Cg _ a k e m O Gb=>?_);have Hp:∀ y∈Cg,y∈(U++([J]))∨_≤y:=λy E=>(Gb y E).elim (λE=>(λy E=>Or.inl (List.mem_append_left _ E)) y E) (λh=>Or.inr (Nat.le_trans s.size h));refine nt iA s e λs=>dT k 14 z z s (λw s=>KW k z z) λa k=>dF k 15 TP z s λa k=>dG 16 z (CM (cs':=(cR A Em v9 Aj)) sizeOf33 m 4 N 6 k (CJ (Enc.ow_rd O)) (A5 (Enc.ow_rd O)) z z z z z z z z z λ_ a k e m Fm=>?_);refine nt iB s e λs=>dD ((AF ?_));refine uc 7 k z λk=>?_;cases h;exact C7 k z (RV.tmp k z) ⟨([J]++(Cg++(Q++T))),z,m.ext,(λb L=>(m.sl [4,5,6,7] z).lo b (by simpa [EC] using L)),(obx.fin (x:=(⟨A.fc,A.fJ,A.fR,Di,A.fG,A.fP,A.fU⟩:Request)) (m.y Fm 4 z) (m.v O 5 z) (m.v Z 6 z) (m.v V 7 z) (by simpa [EC] using (m.sl [4,5,6,7] z).nd))⟩
   refine BD aW m k z z z z z z z A1 z (by exact fC z fN) λ_ _ _ a k m e Dh O=>?_;have Ip:=s.lo O;have O:=AO Dh ([(⟨Aq,At⟩:Pair)]:List Pair) z z z;refine ns s e λs=>dG 4 z (gl 1 [bF m 4 N z] k z λk=>wpList_nil ⟨s,?_⟩);refine dG 13 z (oE h λFz Fp h=>AZ Fp aW z m 5 Y (News.rd (m.q O 0 z)) z z k z z z z z z z λGa Ct _ a k e m O Dg=>?_);have Ia:∀ y∈Ct,y∈(U++([J]))∨_≤y:=λy E=>(Dg y E).elim (λE=>(λy E=>Or.inl (List.mem_append_left _ E)) y E) (λh=>Or.inr (Nat.le_trans s.size h));refine nt iA s e λs=>dT k 14 z z s (λw s=>KW k z z) λa k=>dF k 15 TP z s λa k=>dG 16 z (CM (cs':=(cR A Ga v9 Aj)) sizeOf33 m 4 N 6 k (CJ (Enc.ow_rd O)) (A5 (Enc.ow_rd O)) z z z z z z z z z λ_ a k e m Fh=>?_);refine nt iB s e λs=>dD ((AF ?_));refine uc 7 k z λk=>?_;cases h;exact C7 k z (RV.tmp k z) ⟨([J]++(Ct++(Q++T))),z,m.ext,(λb L=>(m.sl [4,5,6,7] z).lo b (by simpa [EC] using L)),(obx.fin (x:=(⟨A.fc,A.fJ,A.fR,Fz,A.fG,A.fP,A.fU⟩:Request)) (m.y Fh 4 z) (m.v O 5 z) (m.v Z 6 z) (m.v V 7 z) (by simpa [EC] using (m.sl [4,5,6,7] z).nd))⟩
 refine oE h λ_ O h=>uc 6 k z λk=>sC k call90 z (KC O (hT _ m.ext)) λ_ _ hR=>?_;obtain ⟨_,_,rfl,e,O,Fq⟩:=hR;refine ⟨_,z,λa k=>?_⟩;have m:=m.nw e Fq O;refine lJ 12 h k z (λh k=>?_) λh k=>?_
 · refine uc 1 k z λk=>dI (Q++([J])) m z λM m s=>?_;have D:=(M.sel [6,4,0,1,2,3,5,7] z A1).join2;refine dM [0,1,5,8,11,14,17,20,23] 9 z k z s λa k=>dT k 2 z z s (λw s=>KW k z z) λa k=>dF k 3 IY z s λa k=>oE h λAs Bx h=>dT k 6 z z s (λw s=>BK (Enc.ow_rd O) Bx k FX z z z) λa k=>dT k 7 z z s (λw s=>CI (Enc.ow_rd O) (D.az 1 0 z z z s) Bx 0 GP k z z z z) λa k=>oE h λAl Bw h=>dT k 9 z z s (λw s=>BK (Enc.ow_rd O) Bw k FX z z z) λa k=>dT k 10 z z s (λw s=>CI (Enc.ow_rd O) (D.az 1 0 z z z s) Bw 0 GP k z z z z) λa k=>oE h λAz Ca h=>dT k 12 z z s (λw s=>BK (Enc.ow_rd O) Ca k FX z z z) λa k=>dT k 13 z z s (λw s=>CI (Enc.ow_rd O) (D.az 1 0 z z z s) Ca 0 GP k z z z z) λa k=>oE h λAv Cr h=>dT k 15 z z s (λw s=>BK (Enc.ow_rd O) Cr k FX z z z) λa k=>dT k 16 z z s (λw s=>CI (Enc.ow_rd O) (D.az 1 0 z z z s) Cr 0 GP k z z z z) λa k=>oE h λAx Bs h=>?_;refine dT k 18 z z s (λw s=>BK (Enc.ow_rd O) Bs k FX z z z) λa k=>dT k 19 z z s (λw s=>CI (Enc.ow_rd O) (D.az 1 0 z z z s) Bs 0 GP k z z z z) λa k=>oE h λAp Co h=>dT k 21 z z s (λw s=>BK (Enc.ow_rd O) Co k FX z z z) λa k=>dT k 22 z z s (λw s=>CI (Enc.ow_rd O) (D.az 1 0 z z z s) Co 0 GP k z z z z) λa k=>oE h λAo Cc h=>dT k 24 z z s (λw s=>BK (Enc.ow_rd O) Cc k FX z z z) λa k=>dT k 25 z z s (λw s=>CI (Enc.ow_rd O) (D.az 1 0 z z z s) Cc 0 GP k z z z z) λa k=>dT k 26 z z s (λw s=>AN W1 k (cs:=#[I As,I Al,I Az,I Av,I Ax,I Ap,I Ao]) (ps:=[(0,.tmp 97),(1,.tmp 100),(2,.tmp 103),(3,.tmp 106),(4,.tmp 109),(5,.tmp 112),(6,.tmp 115)]) z z AQ) λa k=>Vr 4 27 AQ z z ?_ ?_
   · refine gl 1 [bF m 4 N z] k z λk=>wpList_nil ⟨s,?_⟩;refine dG 27 z (BD PB m k z z z z z z z A1 z (by exact fC z fN) λ_ _ _ a k m e Dd O=>?_);have Hu:=s.lo O;have O:=AO Dd ([(⟨As,Al,Az,Av,Ax,Ap,Ao⟩:Typ)]:List Typ) z z z;refine ns s e λs=>dG 28 z (oE h λDa Ee h=>AZ Ee PB z m 7 Z (News.rd (m.q O 0 z)) z z k z z z z z z z λGc Cp _ a k e m O Ft=>?_);have Gg:∀ y∈Cp,y∈(Q++([J]))∨_≤y:=λy E=>(Ft y E).elim (λE=>(λy E=>Or.inl (List.mem_append_left _ E)) y E) (λh=>Or.inr (Nat.le_trans s.size h));refine nt iA s e λs=>dT k 29 z z s (λw s=>KW k z z) λa k=>dF k 30 IY z s λa k=>dG 31 z (CM (cs':=(cR A v6 Gc Aj)) sizeOf34 m 5 N 7 k (CJ (Enc.ow_rd O)) (A5 (Enc.ow_rd O)) z z z z z z z z z λ_ a k e m Eo=>?_);refine nt iB s e λs=>dD ?_;refine (AF ?_);refine uc 7 k z λk=>?_;cases h;exact C7 k z (RV.tmp k z) ⟨([J]++(U++(Cp++T))),z,m.ext,(λb L=>(m.sl [5,6,7,8] z).lo b (by simpa [EC] using L)),(obx.fin (x:=(⟨A.fc,A.fJ,A.fR,A.fT,Da,A.fP,A.fU⟩:Request)) (m.y Eo 5 z) (m.v Y 6 z) (m.v O 7 z) (m.v V 8 z) (by simpa [EC] using (m.sl [5,6,7,8] z).nd))⟩
   refine BD PB m k z z z z z z z A1 z (by exact fC z fN) λ_ _ _ a k m e Dw O=>?_;have If:=s.lo O;have Dy:=AO Dw ([(⟨As,Al,Az,Av,Ax,Ap,Ao⟩:Typ)]:List Typ) z z z;refine ns s e λs=>dG 4 z (gl 1 [bF m 5 N z] k z λk=>wpList_nil ⟨s,?_⟩);refine dG 28 z (oE h λFs O h=>AZ O PB z m 7 Z (News.rd (m.q Dy 0 z)) z z k z z z z z z z λCx Bp _ a k e m O Er=>?_);have Iz:∀ y∈Bp,y∈(Q++([J]))∨_≤y:=λy E=>(Er y E).elim (λE=>(λy E=>Or.inl (List.mem_append_left _ E)) y E) (λh=>Or.inr (Nat.le_trans s.size h));refine nt iA s e λs=>dT k 29 z z s (λw s=>KW k z z) λa k=>dF k 30 IY z s λa k=>dG 31 z (CM (cs':=(cR A v6 Cx Aj)) sizeOf34 m 5 N 7 k (CJ (Enc.ow_rd O)) (A5 (Enc.ow_rd O)) z z z z z z z z z λ_ a k e m Eb=>?_);refine nt iB s e λs=>dD ?_;refine (AF ?_);refine uc 7 k z λk=>?_;cases h;exact C7 k z (RV.tmp k z) ⟨([J]++(U++(Bp++T))),z,m.ext,(λb L=>(m.sl [5,6,7,8] z).lo b (by simpa [EC] using L)),(obx.fin (x:=(⟨A.fc,A.fJ,A.fR,A.fT,Fs,A.fP,A.fU⟩:Request)) (m.y Eb 5 z) (m.v Y 6 z) (m.v O 7 z) (m.v V 8 z) (by simpa [EC] using (m.sl [5,6,7,8] z).nd))⟩
 refine oE h λ_ O h=>uc 6 k z λk=>sC k call90 z (KC O (hT _ m.ext)) λ_ _ hR=>?_;obtain ⟨_,_,rfl,e,O,Fb⟩:=hR;refine ⟨_,z,λa k=>?_⟩;have m:=m.nw e Fb O;refine lJ 12 h k z (λh k=>?_) λh k=>?_
 · refine oE h λBr Bz h=>gc 8 [iF (Enc.ow_rd O) Bz,eF (m.q O 0 z) Bz 0] k z λk=>sT sizeOf3 m 5 N 8 k z z λ_ a k e m O=>ul 9 k z λk=>?_;cases h;exact C7 k z (RV.tmp k z) ⟨([J]++(U++(Q++T))),z,m.ext,(λb L=>(m.sl [5,6,7,8] z).lo b (by simpa [EC] using L)),(obx.fin (x:=(⟨A.fc,A.fJ,A.fR,A.fT,A.fG,Br,A.fU⟩:Request)) (m.y O 5 z) (m.v Y 6 z) (m.v Z 7 z) (m.v V 8 z) (by simpa [EC] using (m.sl [5,6,7,8] z).nd))⟩
 refine oE h λ_ O h=>uc 6 k z λk=>sC k call90 z (KC O (hT _ m.ext)) λ_ _ hR=>?_;obtain ⟨_,_,rfl,e,O,Fl⟩:=hR;refine ⟨_,z,λa k=>?_⟩;have m:=m.nw e Fl O;refine lJ 12 h k z (λh k=>?_) λh k=>?_
 · refine uc 1 k z λk=>dI (T++([J])) m z λM m s=>?_;have D:=(M.sel [9,6,0,1,2,3,4,5,7,8] z A1).join2;refine dM [0,1,5,8,11,14,17,20,23] 9 z k z s λa k=>dT k 2 z z s (λw s=>KW k z z) λa k=>dF k 3 WN z s λa k=>oE h λAr M h=>dT k 6 z z s (λw s=>BK (Enc.ow_rd O) M k FX z z z) λa k=>dT k 7 z z s (λw s=>CI (Enc.ow_rd O) (D.az 1 0 z z z s) M 0 GP k z z z z) λa k=>oE h λBa M h=>dT k 9 z z s (λw s=>BK (Enc.ow_rd O) M k FX z z z) λa k=>dT k 10 z z s (λw s=>CI (Enc.ow_rd O) (D.az 1 0 z z z s) M 0 GP k z z z z) λa k=>oE h λAy M h=>dT k 12 z z s (λw s=>BK (Enc.ow_rd O) M k FX z z z) λa k=>dT k 13 z z s (λw s=>CI (Enc.ow_rd O) (D.az 1 0 z z z s) M 0 GP k z z z z) λa k=>oE h λBb M h=>dT k 15 z z s (λw s=>BK (Enc.ow_rd O) M k FX z z z) λa k=>dT k 16 z z s (λw s=>CI (Enc.ow_rd O) (D.az 1 0 z z z s) M 0 GP k z z z z) λa k=>oE h λM Cm h=>?_;refine dT k 18 z z s (λw s=>BK (Enc.ow_rd O) Cm k FX z z z) λa k=>dT k 19 z z s (λw s=>CI (Enc.ow_rd O) (D.az 1 0 z z z s) Cm 0 GP k z z z z) λa k=>oE h λAm Cl h=>dT k 21 z z s (λw s=>BK (Enc.ow_rd O) Cl k FX z z z) λa k=>dT k 22 z z s (λw s=>CI (Enc.ow_rd O) (D.az 1 0 z z z s) Cl 0 GP k z z z z) λa k=>oE h λAu Cd h=>dT k 24 z z s (λw s=>BK (Enc.ow_rd O) Cd k FX z z z) λa k=>dT k 25 z z s (λw s=>CI (Enc.ow_rd O) (D.az 1 0 z z z s) Cd 0 GP k z z z z) λa k=>dT k 26 z z s (λw s=>AN Y1 k (cs:=#[I Ar,I Ba,I Ay,I Bb,I M,I Am,I Au]) (ps:=[(0,.tmp 146),(1,.tmp 149),(2,.tmp 152),(3,.tmp 155),(4,.tmp 158),(5,.tmp 161),(6,.tmp 164)]) z z AQ) λa k=>Vr 4 27 AQ z z ?_ ?_
   · refine gl 1 [bF m 6 N z] k z λk=>wpList_nil ⟨s,?_⟩;refine dG 27 z (BD YV m k z z z z z z z A1 z (by exact fC z fN) λ_ _ _ a k m e O D=>?_);have Ix:=s.lo D;have Ez:=AO O ([(⟨Ar,Ba,Ay,Bb,M,Am,Au⟩:Item)]:List Item) z z z;refine ns s e λs=>dG 28 z (oE h λDj D h=>AZ D YV z m 10 V (News.rd (m.q Ez 0 z)) z z k z z z z z z z λEx O _ a k e m D Dv=>?_);have Gw:∀ y∈O,y∈(T++([J]))∨_≤y:=λy E=>(Dv y E).elim (λE=>(λy E=>Or.inl (List.mem_append_left _ E)) y E) (λh=>Or.inr (Nat.le_trans s.size h));refine nt iA s e λs=>dT k 29 z z s (λw s=>KW k z z) λa k=>dF k 30 WN z s λa k=>dG 31 z (CM (cs':=(cR A v6 v9 Ex)) sizeOf35 m 7 N 9 k (CJ (Enc.ow_rd D)) (A5 (Enc.ow_rd D)) z z z z z z z z z λ_ a k e m Ej=>?_);refine nt iB s e λs=>dD ?_;refine (AF ?_);refine uc 7 k z λk=>?_;cases h;exact C7 k z (RV.tmp k z) ⟨([J]++(U++(Q++O))),z,m.ext,(λb L=>(m.sl [7,8,9,10] z).lo b (by simpa [EC] using L)),(obx.fin (x:=(⟨A.fc,A.fJ,A.fR,A.fT,A.fG,A.fP,Dj⟩:Request)) (m.y Ej 7 z) (m.v Y 8 z) (m.v Z 9 z) (m.v D 10 z) (by simpa [EC] using (m.sl [7,8,9,10] z).nd))⟩
   refine BD YV m k z z z z z z z A1 z (by exact fC z fN) λ_ _ _ a k m e D O=>?_;have Gy:=s.lo O;have O:=AO D ([(⟨Ar,Ba,Ay,Bb,M,Am,Au⟩:Item)]:List Item) z z z;refine ns s e λs=>dG 4 z (gl 1 [bF m 7 N z] k z λk=>wpList_nil ⟨s,?_⟩);refine dG 28 z (oE h λGd D h=>AZ D YV z m 10 V (News.rd (m.q O 0 z)) z z k z z z z z z z λFw M _ a k e m D O=>?_);have Iu:∀ y∈M,y∈(T++([J]))∨_≤y:=λy E=>(O y E).elim (λE=>(λy E=>Or.inl (List.mem_append_left _ E)) y E) (λh=>Or.inr (Nat.le_trans s.size h));refine nt iA s e λs=>dT k 29 z z s (λw s=>KW k z z) λa k=>dF k 30 WN z s λa k=>dG 31 z (CM (cs':=(cR A v6 v9 Fw)) sizeOf35 m 7 N 9 k (CJ (Enc.ow_rd D)) (A5 (Enc.ow_rd D)) z z z z z z z z z λ_ a k e m E=>?_);refine nt iB s e λs=>dD ?_;refine (AF ?_);refine uc 7 k z λk=>?_;cases h;exact C7 k z (RV.tmp k z) ⟨([J]++(U++(Q++M))),z,m.ext,(λb L=>(m.sl [7,8,9,10] z).lo b (by simpa [EC] using L)),(obx.fin (x:=(⟨A.fc,A.fJ,A.fR,A.fT,A.fG,A.fP,Gd⟩:Request)) (m.y E 7 z) (m.v Y 8 z) (m.v Z 9 z) (m.v D 10 z) (by simpa [EC] using (m.sl [7,8,9,10] z).nd))⟩
 refine uc 8 k z λk=>?_;cases h;exact C7 k z (RV.tmp k z) ⟨([J]++(U++(Q++T))),z,m.ext,(λb L=>(m.sl [6,7,8,9] z).lo b (by simpa [EC] using L)),(obx.fin (x:=A) (m.y N 6 z) (m.v Y 7 z) (m.v Z 8 z) (m.v V 9 z) (by simpa [EC] using (m.sl [6,7,8,9] z).nd))⟩
theorem cX {fu A D E r} (h:PI fu D E=some r):cS 32 [I D,I E] A (.bool (r)):=by
 refine eg func32 z ntmps32 z λk m=>uc 5 k z λk=>cg (λa w=>K 38 [] a∧St [] A w []∧JP fu=some r) ?_ ?_
 · rintro a _ ⟨k,m,h⟩;refine uc 6 k z λk=>fS h k m z z
 refine uJ 13 h k z (λh k=>?_) λh k=>?_
 · refine uJ 2 h k z (λh k=>?_) λh k=>?_
   · refine uc 12 k z λk=>fS h k m z z
   refine uJ 6 h k z (λh k=>?_) λh k=>?_
   · refine uc 5 k z λk=>bT h k 18 z (λh k=>?_) λh k=>?_
     · refine ul 9 k z λk=>fS h k m z z
     refine ul 9 k z λk=>fS h k m z z
   refine uJ 6 h k z (λh k=>?_) λh k=>?_
   · refine oE h λ_ A h=>uc 3 k z λk=>cC k m call91 z (BA A) λ_ e a k m=>ul 6 k z λk=>fS h k m z z
   refine uJ 6 h k z (λh k=>?_) λh k=>?_
   · refine oE h λ_ A h=>uc 3 k z λk=>cC k m call91 z (BA A) λ_ e a k m=>ul 6 k z λk=>fS h k m z z
   refine uJ 6 h k z (λh k=>?_) λh k=>?_
   · refine uc 5 k z λk=>bT h k 34 z (λh k=>?_) λh k=>?_
     · refine ul 9 k z λk=>fS h k m z z
     refine ul 9 k z λk=>fS h k m z z
   exact uc 3 k z λk=>⟨k.p z,m.f z,h⟩
 refine uJ 6 h k z (λh k=>?_) λh k=>?_
 · refine uJ 2 h k z (λh k=>?_) λh k=>?_
   · refine uc 12 k z λk=>fS h k m z z
   refine uJ 6 h k z (λh k=>?_) λh k=>?_
   · refine uc 5 k z λk=>bT h k 18 z (λh k=>?_) λh k=>?_
     · refine ul 9 k z λk=>fS h k m z z
     refine ul 9 k z λk=>fS h k m z z
   refine uJ 6 h k z (λh k=>?_) λh k=>?_
   · refine oE h λ_ A h=>uc 3 k z λk=>cC k m call91 z (BA A) λ_ e a k m=>ul 6 k z λk=>fS h k m z z
   refine uJ 6 h k z (λh k=>?_) λh k=>?_
   · refine oE h λ_ A h=>uc 3 k z λk=>cC k m call91 z (BA A) λ_ e a k m=>ul 6 k z λk=>fS h k m z z
   refine uJ 6 h k z (λh k=>?_) λh k=>?_
   · refine uc 5 k z λk=>bT h k 34 z (λh k=>?_) λh k=>?_
     · refine ul 9 k z λk=>fS h k m z z
     refine ul 9 k z λk=>fS h k m z z
   exact uc 3 k z λk=>⟨k.p z,m.f z,h⟩
 refine uJ 5 h k z (λh k=>?_) λh k=>?_
 · refine uc 12 k z λk=>fS h k m z z
 refine uJ 6 h k z (λh k=>?_) λh k=>?_
 · refine uc 5 k z λk=>bT h k 18 z (λh k=>?_) λh k=>?_
   · refine ul 9 k z λk=>fS h k m z z
   refine ul 9 k z λk=>fS h k m z z
 refine uJ 6 h k z (λh k=>?_) λh k=>?_
 · refine oE h λ_ A h=>uc 3 k z λk=>cC k m call91 z (BA A) λ_ e a k m=>ul 6 k z λk=>fS h k m z z
 refine uJ 6 h k z (λh k=>?_) λh k=>?_
 · refine oE h λ_ A h=>uc 3 k z λk=>cC k m call91 z (BA A) λ_ e a k m=>ul 6 k z λk=>fS h k m z z
 refine uJ 6 h k z (λh k=>?_) λh k=>?_
 · refine uc 5 k z λk=>bT h k 34 z (λh k=>?_) λh k=>?_
   · refine ul 9 k z λk=>fS h k m z z
   refine ul 9 k z λk=>fS h k m z z
 exact uc 3 k z λk=>⟨k.p z,m.f z,h⟩
theorem PL {fu A J r} (h:IA fu J=some r) (hT:Te Tryz.prog A):Calls Tryz.prog 11 #[.string (J)] A λe w=>∃ (J:List Value) (L:List Nat),e=.returned (.tuple #[.agg J.toArray,I r.2])∧Ext [] A w∧ow w L J r.1∧(∀ b∈L,A.heap.size≤b):=by
 refine eg (vs:=[_]) func11 z ntmps11 z λk m=>uc 2 k z λk=>AP m k zeroValue37 z z z z z λb2 w4 a k m e D=>oE h λx5 J h=>ul 6 k z λk=>sL k m call30 z (Xj J) λw9 By Bk E k m=>hJ 18 [lF (Enc.ow_rd E)] h k z (λh k=>?_) λh k=>?_
 · refine uc 2 k z λk=>sv k z (AN av k (cs:=#[I 0,I 0,I 0,I 0,I 0,I 0,.slice none 0 0,.slice none 0 0,I 0,.slice none 0 0]) (ps:=[]) z z AQ) λa k=>sT sizeOf37 m 1 D 0 k z z λ_ a k e m J=>ul 5 k z λk=>?_;cases h;exact B4 k z (RV.cA k z SZ (J.at (m.a 1 z) 0 10 z z z) z) (RV.tmp k z) ⟨_,_,z,m.ext,⟨_,[],_,[],_,[],z,z,(A0 _),(A0 _),(A0 _),by simpa [EC] using (m.sl [] z).nd⟩,(A3 AD (A3 AD AD))⟩
 refine uc 4 k z λk=>sv k z (AN av k (cs:=#[I 0,I 0,I 0,I 0,I 0,I 0,.slice none 0 0,.slice none 0 0,I 0,.slice none 0 0]) (ps:=[]) z z AQ) λa k=>AP m k zeroValue37 z z z z z λBc _ a k m e J=>sT sizeOf37 m 0 J 0 k z z λ_ a k e m Ce=>oE h λBl J h=>ul 12 k z λk=>ax (Enc.ow_rd E) J k uq z z z z z z λCt a k Ba=>gl 5 [lF Ba] k z λk=>lG (λn a w=>∃ Z N T O L U J At V Bb Q Ar As Ay Ab M Ax Y Bh Be Aw Av,K 51 [(2,pt b2),(4,By),(5,I (AK ((x5.length:Int) - 1))),(6,pt Bc),(7,I Aw),(22,Ct),(23,I (Bl.length:Int)),(24,I Av)] a∧St [] A w [([b2],w4),(V,Bb),(As,Ay),(Y,Bh),([Bc],Be),(Bk,w9)]∧ow Bb V [At] J∧ow Ay As [Ar] Q∧ow Bh Y [Ax] M∧bx Be Bc [I Z,I N,I T,I O,I L,I U,At,Ar,I Ab,Ax] 37∧HD fu x5 Bl n Z N T O L U J Q Ab M Aw Av=some r) ?_ fu ?_
 · rintro _ a _ ⟨Z,N,T,O,L,U,J,At,V,Bb,Q,Ar,As,Ay,Ab,M,Ax,Y,Bh,Be,Aw,Av,k,m,Az,Bd,Bg,Bj,h⟩;refine uJ 6 h k z (λh k=>?_) λh k=>?_
   · refine oE h λ_ Bo h=>gc 16 [iF Ba Bo,eF (Enc.rd_agr Ba (m.a 5 z)) Bo 0] k z λk=>?_;have Cn:=Enc.ow_agr Az (m.a 1 z);have Br:=Enc.ow_agr Bd (m.a 2 z);have Ck:=Enc.ow_agr Bg (m.a 3 z);have Bw:=Bj.agr (m.a 4 z) AD;have m:=(m.sl [4,1,2,3,0,5] z).joinq;have Bp:=obx.fin (x:=(⟨Z,(⟨N,T,O,L⟩:Pallet),U,J,Q,Ab,M⟩:Request)) Bw Cn Br Ck (m.ndF 0 z);refine oE h λ_ J h=>sC k call31 z (gR J Bp (m.te2 hT 0 z)) λ_ _ hR=>?_;obtain ⟨_,rfl,e,L,Bf⟩:=hR;refine ⟨_,z,λa k=>?_⟩;have m:=m.mut 0 z e _ (λb J=>⟨L b J,Bf.lt b J⟩) Bf.nd;obtain ⟨_,_,_,_,_,_,Cr,rfl,J,M,L,_⟩:=Bf;have m:=m.split4;refine oE h λ_ N h=>ul 8 k z λk=>cC k m call32 z (cX N) λ_ e a k m=>lJ 3 h k z (λh k=>?_) λh k=>?_
     · refine uc 2 k z λk=>sv k z (AN av k (cs:=#[I 0,I 0,I 0,I 0,I 0,I 0,.slice none 0 0,.slice none 0 0,I 0,.slice none 0 0]) (ps:=[]) z z AQ) λa k=>pN 1 k z λa k=>sT sizeOf37 m 4 D 0 k z z λ_ a k e m N=>ul 10 k z λk=>?_;cases h;exact B4 k z (RV.cA k z SZ (N.at (m.a 4 z) 0 10 z z z) z) (RV.tmp k z) ⟨_,_,z,m.ext,⟨_,[],_,[],_,[],z,z,(A0 _),(A0 _),(A0 _),by simpa [EC] using (m.sl [] z).nd⟩,(A3 AD (A3 AD AD))⟩
     exact uc 13 k z λk=>⟨_,_,_,_,_,_,_,_,_,_,_,_,_,_,_,_,_,_,_,_,_,_,k.p z,m.sl [4,1,2,3,0,5] z,J,M,L,Cr,h⟩
   refine uc 11 k z λk=>bT h k 41 z (λh k=>?_) λh k=>?_
   · refine ul 11 k z λk=>sv k z (AN av k (cs:=#[I 0,I 0,I 0,I 0,I 0,I 0,.slice none 0 0,.slice none 0 0,I 0,.slice none 0 0]) (ps:=[]) z z AQ) λa k=>pN 1 k z λa k=>sT sizeOf37 m 0 D 0 k z z λ_ a k e m J=>ul 5 k z λk=>?_;cases h;exact B4 k z (RV.cA k z SZ (J.at (m.a 0 z) 0 10 z z z) z) (RV.tmp k z) ⟨_,_,z,m.ext,⟨_,[],_,[],_,[],z,z,(A0 _),(A0 _),(A0 _),by simpa [EC] using (m.sl [] z).nd⟩,(A3 AD (A3 AD AD))⟩
   refine oE h λ_ J h=>hJ 8 [iF (Enc.ow_rd E) J,eF (m.q E 5 z) J 0] h k z (λh k=>?_) λh k=>?_
   · refine uc 2 k z λk=>sv k z (AN av k (cs:=#[I 0,I 0,I 0,I 0,I 0,I 0,.slice none 0 0,.slice none 0 0,I 0,.slice none 0 0]) (ps:=[]) z z AQ) λa k=>pN 1 k z λa k=>sT sizeOf37 m 0 D 0 k z z λ_ a k e m E=>ul 5 k z λk=>?_;cases h;exact B4 k z (RV.cA k z SZ (E.at (m.a 0 z) 0 10 z z z) z) (RV.tmp k z) ⟨_,_,z,m.ext,⟨_,[],_,[],_,[],z,z,(A0 _),(A0 _),(A0 _),by simpa [EC] using (m.sl [] z).nd⟩,(A3 AD (A3 AD AD))⟩
   refine gc 5 [bA m 4 Bj z] k z λk=>sT sizeOf37 m 0 D 0 k z (AH z (AH z (AH z (AH z (AH z (AH z (AH (A5 (Enc.ow_rd Az)) (AH (A5 (Enc.ow_rd Bd)) (AH z (AH (A5 (Enc.ow_rd Bg)) DR)))))))))) λ_ a k e m D=>ul 4 k z λk=>?_;cases h;exact B4 k z (RV.cA k z SZ (D.at (m.a 0 z) 0 10 z z z) z) (RV.tmp k z) ⟨_,_,z,m.ext,⟨_,V,_,As,_,Y,z,z,(m.v Az 1 z),(m.v Bd 2 z),(m.v Bg 3 z),by simpa [EC] using (m.sl [1,2,3] z).nd⟩,(A3 (m.fresh 1 z) (A3 (m.fresh 2 z) (m.fresh 3 z)))⟩
 exact ⟨_,_,_,_,_,_,_,_,_,_,_,_,_,_,_,_,_,_,_,_,_,_,k.p z,(((m.addNil (u:=A)).addNil (u:=A)).addNil (u:=A)).sel [5,0,1,2,3,4] z A1,(A0 _),(A0 _),(A0 _),Ce,h⟩
theorem bi (fu) {A} (L E) {J} (D:bx A J [I E] 3) {r} (h:UA fu L E=some r):cS 177 [.agg (Flat.e (L)).toArray,pt J] A (.bool (r)):=by
 refine eg func177 z ntmps177 z λk m=>uc 2 k z λk=>AW m k z z z z z z λ_ _ a k m e A=>gl 13 [bF m 0 A z,pF (r:=[]) (D.at (m.a00 D.lt1) 0 1 z z z)] k z λk=>fS h k m z z
theorem IX {fu D A M E N J r} (h:CG fu A M=some r) (L:rd D N [E] A) (V:Wn Tryz.prog D J M):cS 141 [E,J] D (I r):=by
 refine eg func141 z ntmps141 z λk m=>?_;obtain ⟨Q,U,rfl,N,T⟩:=V;refine gc 14 [lF L] k z λk=>lG (λn a w=>∃ J,K 19 [(0,E),(1,(.func (.func Q) #[] U.toArray)),(7,I (A.length:Int)),(8,I J)] a∧St [] D w []∧BL fu A M n J=some r) ?_ fu ?_
 · rintro _ a _ ⟨J,k,m,h⟩;refine uJ 6 h k z (λh k=>?_) λh k=>?_
   · refine o2 h λ_ A _ D h=>gc 17 [iF L A,eA (m.r L) A] k z λk=>TT k N z z z z z z (T _ _ _ _ m.ext z D) λ_ _ O=>?_;obtain ⟨rfl,e⟩:=O;refine ⟨_,z,λa k=>?_⟩;have m:=m.step e;refine lJ 2 h k z (λh k=>?_) λh k=>?_
     · refine uc 12 k z λk=>fS h k m z z
     exact uc 8 k z λk=>⟨_,k.p z,m.f z,h⟩
   refine uc 11 k z λk=>fS h k m z z
 exact ⟨_,k.p z,m.f z,h⟩
theorem Se {fu E M L D V r} (h:JI fu M L=some r) (O:rd E V D M):cS 107 [.agg D.toArray,I L] E (.tuple #[.agg (Flat.e r.1).toArray,.bool (r.2)]):=by
 refine eg func107 z ntmps107 z λk m=>?_;obtain ⟨_,_,_,_,_,_,rfl,rfl,_,A,_⟩:=O;refine uc 2 k z λk=>AW m k z z z z z z λ_ _ a k m e J=>AW m k z z z z z z λE _ a k m e Q=>AP m k zeroValue102 z z z z z λ_ _ a k m e N=>oE h λ_ D h=>gl 8 [bF m 2 J z] k z λk=>cC k m call141 z (IX D (m.r A) ⟨177,[pt E],z,call177,λw _ _ r e U T=>by subst U; have m:=m.step e; exact bi fu _ _ (Q.agr (m.a 1 rfl) AD) T⟩) λ_ e a k m=>pN 1 k rfl λa k=>ul 5 k z λk=>pN 2 k rfl λa k=>ul 2 k z λk=>cI h k rfl (λD h=>?_) λD h=>?_
 · refine uc 2 k z λk=>sv k z (AN W1 k (cs:=#[I 0,I 0,I 0,I 0,I 0,I 0,I 0]) (ps:=[]) z z AQ) λa k=>sT sizeOf102 m 0 N 0 k z z λ_ a k e m D=>ul 5 k z λk=>?_;cases h;exact B4 k z (RV.cA k z YT (D.at (m.a 0 z) 0 7 z z z) z) (RV.tmp k z) ⟨z,m.ext⟩
 refine oE h λ_ D h=>gc 9 [bF m 2 J z,iF A D,eA (m.r A) D] k z λk=>sT sizeOf102 m 0 N 0 k z z λ_ a k e m A=>ul 4 k z λk=>?_;cases h;exact B4 k z (RV.cA k z YT (A.at (m.a 0 z) 0 7 z z z) z) (RV.tmp k z) ⟨z,m.ext⟩
theorem WD {fu A D E L r} (h:KL fu D=some r) (J:rd A L E D):cS 62 [.agg E.toArray] A (.tuple #[.agg (Flat.e r.1).toArray,.bool (r.2)]):=by
 refine eg func62 z ntmps62 z λk m=>?_;obtain ⟨_,_,_,_,_,_,rfl,rfl,E,L,D⟩:=J;refine uc 2 k z λk=>AW m k z z z z z z λ_ _ a k m e A=>AP m k zeroValue102 z z z z z λ_ _ a k m e J=>oE h λ_ M h=>gl 8 [bA m 1 A z,bF m 1 A z] k z λk=>cC k m call107 z (Se M (AE (m.r E) (m.r L) (m.r D))) λ_ e a k m=>pN 2 k z λa k=>sT sizeOf102 m 0 J 0 k z z λ_ a k e m A=>ul 4 k z λk=>?_;cases h;exact B4 k z (RV.cA k z YT (A.at (m.a 0 z) 0 7 z z z) z) (RV.tmp k z) ⟨z,m.ext⟩
theorem Fo {fu A n1 r} (h:DF fu n1=some r):cS 199 [I n1] A (.bool (r)):=by
 refine eg func199 z ntmps199 z λk m=>oE h λ_ A h=>uc 8 k z λk=>cC k m call91 z (BA A) λ_ e a k m=>ul 4 k z λk=>fS h k m z z
theorem Su {fu D A r} (h:FY fu A=some r):cS 130 [.agg (Flat.e (A)).toArray] D (.bool (r)):=by
 refine eg func130 z ntmps130 z λk m=>uc 2 k z λk=>AW m k z z z z z z λ_ _ a k m e A=>oE h λ_ D h=>gl 7 [bF m 0 A z] k z λk=>cC k m call199 z (Fo D) λ_ e a k m=>pN 1 k z λa k=>bT h k 6 z (λh k=>?_) λh k=>?_
 · refine oE h λ_ D h=>gl 2 [bF m 0 A z] k z λk=>cC k m call199 z (Fo D) λ_ e a k m=>pN 2 k z λa k=>bT h k 11 z (λh k=>?_) λh k=>?_
   · refine oE h λ_ D h=>gl 2 [bF m 0 A z] k z λk=>cC k m call199 z (Fo D) λ_ e a k m=>pN 2 k z λa k=>bT h k 16 z (λh k=>?_) λh k=>?_
     · refine oE h λ_ D h=>gl 2 [bF m 0 A z] k z λk=>cC k m call91 z (BA D) λ_ e a k m=>ul 5 k z λk=>fS h k m z z
     refine ul 8 k z λk=>fS h k m z z
   refine ul 13 k z λk=>fS h k m z z
 refine ul 18 k z λk=>fS h k m z z
theorem OU {fu D A M E N J r} (h:DO fu A M=some r) (L:rd D N [E] A) (V:Wn Tryz.prog D J M):cS 200 [E,J] D (I r):=by
 refine eg func200 z ntmps200 z λk m=>?_;obtain ⟨Q,U,rfl,N,T⟩:=V;refine gc 14 [lF L] k z λk=>lG (λn a w=>∃ J,K 19 [(0,E),(1,(.func (.func Q) #[] U.toArray)),(7,I (A.length:Int)),(8,I J)] a∧St [] D w []∧BN fu A M n J=some r) ?_ fu ?_
 · rintro _ a _ ⟨J,k,m,h⟩;refine uJ 6 h k z (λh k=>?_) λh k=>?_
   · refine o2 h λ_ A _ D h=>gc 17 [iF L A,eA (m.r L) A] k z λk=>TT k N z z z z z z (T _ _ _ _ m.ext z D) λ_ _ O=>?_;obtain ⟨rfl,e⟩:=O;refine ⟨_,z,λa k=>?_⟩;have m:=m.step e;refine lJ 2 h k z (λh k=>?_) λh k=>?_
     · refine uc 12 k z λk=>fS h k m z z
     exact uc 8 k z λk=>⟨_,k.p z,m.f z,h⟩
   refine uc 11 k z λk=>fS h k m z z
 exact ⟨_,k.p z,m.f z,h⟩
theorem HN {fu A J L E O D r} (h:BO fu J L=some r) (M:rd A O [E] J) (N:Wn Tryz.prog A D L):cS 131 [E,D] A (.bool (r)):=by
 refine eg func131 z ntmps131 z λk m=>?_;obtain ⟨_,_,rfl,A,D⟩:=N;refine oE h λ_ E h=>uc 9 k z λk=>cC k m call200 z (OU E (m.r M) ⟨_,_,z,A,λw E A r e=>D w E A r (m.ext.trans e AD)⟩) λ_ e a k m=>ul 5 k z λk=>fS h k m z z
theorem ba (fu) {D} (A) {r} (h:NG fu A=some r):cS 132 [.agg (Flat.e (A)).toArray] D (.bool (r)):=by
 refine eg func132 z ntmps132 z λk m=>uc 2 k z λk=>AW m k z z z z z z λ_ _ a k m e A=>oE h λ_ D h=>gl 7 [bF m 0 A z] k z λk=>cC k m call91 z (BA D) λ_ e a k m=>pN 2 k z λa k=>bT h k 7 z (λh k=>?_) λh k=>?_
 · refine ul 9 k z λk=>fS h k m z z
 refine oE h λ_ D h=>gl 2 [bF m 0 A z] k z λk=>cC k m call91 z (BA D) λ_ e a k m=>ul 6 k z λk=>fS h k m z z
theorem EA {fu A J L E O D r} (h:BH fu J L=some r) (M:rd A O [E] J) (N:Wn Tryz.prog A D L):cS 69 [E,D] A (.bool (r)):=by
 refine eg func69 z ntmps69 z λk m=>?_;obtain ⟨_,_,rfl,A,D⟩:=N;refine oE h λ_ E h=>uc 9 k z λk=>cC k m call141 z (IX E (m.r M) ⟨_,_,z,A,λw E A r e=>D w E A r (m.ext.trans e AD)⟩) λ_ e a k m=>ul 5 k z λk=>fS h k m z z
theorem jb {fu D A r} (h:Wh fu A=some r):cS 134 [.agg (Flat.e (A)).toArray] D (.bool (r)):=by
 refine eg func134 z ntmps134 z λk m=>uc 2 k z λk=>AW m k z z z z z z λ_ _ a k m e A=>oE h λ_ D h=>gl 7 [bF m 0 A z] k z λk=>cC k m call91 z (BA D) λ_ e a k m=>pN 1 k z λa k=>bT h k 6 z (λh k=>?_) λh k=>?_
 · refine oE h λ_ D h=>gl 2 [bF m 0 A z] k z λk=>cC k m call199 z (Fo D) λ_ e a k m=>pN 2 k z λa k=>bT h k 11 z (λh k=>?_) λh k=>?_
   · refine oE h λ_ D h=>gl 2 [bF m 0 A z] k z λk=>cC k m call199 z (Fo D) λ_ e a k m=>pN 2 k z λa k=>bT h k 16 z (λh k=>?_) λh k=>?_
     · refine oE h λ_ D h=>gl 2 [bF m 0 A z] k z λk=>cC k m call199 z (Fo D) λ_ e a k m=>pN 2 k z λa k=>bT h k 21 z (λh k=>?_) λh k=>?_
       · refine oE h λ_ D h=>gl 2 [bF m 0 A z] k z λk=>cC k m call91 z (BA D) λ_ e a k m=>pN 2 k z λa k=>bT h k 26 z (λh k=>?_) λh k=>?_
         · refine oE h λ_ D h=>gl 2 [bF m 0 A z] k z λk=>cC k m call91 z (BA D) λ_ e a k m=>pN 2 k z λa k=>bT h k 31 z (λh k=>?_) λh k=>?_
           · refine oE h λ_ D h=>gl 2 [bF m 0 A z] k z λk=>cC k m call91 z (BA D) λ_ e a k m=>ul 5 k z λk=>fS h k m z z
           refine ul 8 k z λk=>fS h k m z z
         refine ul 13 k z λk=>fS h k m z z
       refine ul 18 k z λk=>fS h k m z z
     refine ul 23 k z λk=>fS h k m z z
   refine ul 28 k z λk=>fS h k m z z
 refine ul 33 k z λk=>fS h k m z z
theorem bp (fu) {D} (A) {r} (h:NO fu A=some r):cS 133 [.agg (Flat.e (A)).toArray] D (.bool (r)):=by
 refine eg func133 z ntmps133 z λk m=>uc 2 k z λk=>AW m k z z z z z z λ_ _ a k m e A=>oE h λ_ D h=>gl 6 [bA m 0 A z] k z λk=>cC k m call134 z (jb D) λ_ e a k m=>ul 5 k z λk=>fS h k m z z
theorem iJ {fu D A r} (h:V8 fu A=some r):cS 135 [.agg (Flat.e (A)).toArray] D (.bool (r)):=by
 refine eg func135 z ntmps135 z λk m=>uc 2 k z λk=>AW m k z z z z z z λ_ _ a k m e A=>oE h λ_ D h=>gl 7 [bF m 0 A z] k z λk=>cC k m call91 z (BA D) λ_ e a k m=>pN 1 k z λa k=>bT h k 6 z (λh k=>?_) λh k=>?_
 · refine oE h λ_ D h=>gl 2 [bF m 0 A z] k z λk=>cC k m call199 z (Fo D) λ_ e a k m=>pN 2 k z λa k=>bT h k 11 z (λh k=>?_) λh k=>?_
   · refine oE h λ_ D h=>gl 2 [bF m 0 A z] k z λk=>cC k m call199 z (Fo D) λ_ e a k m=>pN 2 k z λa k=>bT h k 16 z (λh k=>?_) λh k=>?_
     · refine oE h λ_ D h=>gl 2 [bF m 0 A z] k z λk=>cC k m call199 z (Fo D) λ_ e a k m=>pN 2 k z λa k=>bT h k 21 z (λh k=>?_) λh k=>?_
       · refine oE h λ_ D h=>gl 2 [bF m 0 A z] k z λk=>cC k m call91 z (BA D) λ_ e a k m=>pN 2 k z λa k=>bT h k 26 z (λh k=>?_) λh k=>?_
         · refine oE h λ_ D h=>gl 2 [bF m 0 A z] k z λk=>cC k m call91 z (BA D) λ_ e a k m=>pN 2 k z λa k=>bT h k 31 z (λh k=>?_) λh k=>?_
           · refine oE h λ_ D h=>gl 2 [bF m 0 A z] k z λk=>cC k m call91 z (BA D) λ_ e a k m=>ul 5 k z λk=>fS h k m z z
           refine ul 8 k z λk=>fS h k m z z
         refine ul 13 k z λk=>fS h k m z z
       refine ul 18 k z λk=>fS h k m z z
     refine ul 23 k z λk=>fS h k m z z
   refine ul 28 k z λk=>fS h k m z z
 refine ul 33 k z λk=>fS h k m z z
theorem dY {fu E D Q F3 r} (h:Sw fu D=some r) (Y:rd E F3 Q D):cS 63 [.agg Q.toArray] E (.bool (r)):=by
 refine eg func63 z ntmps63 z λk m=>?_;obtain ⟨_,_,_,_,U,_,rfl,rfl,T,O,L⟩:=Y;refine uc 2 k z λk=>AW m k z z z z z z λJ N a k m e A=>ul 3 k z λk=>cg (λa w=>K 70 [(1,pt J)] a∧St [] E w [([J],N)]∧SM fu D=some r) ?_ ?_
 · rintro a _ ⟨k,m,h⟩;refine oE h λ_ Q h=>gc 5 [bF m 0 A z] k z λk=>cC k m call131 z (HN Q (m.r T) ⟨132,[],z,call132,λw _ _ r e Z M=>by subst Z; have m:=m.step e; exact ba fu _  M⟩) λ_ e a k m=>ul 2 k z λk=>cI h k rfl (λQ h=>?_) λQ h=>?_
   · refine uc 7 k z λk=>fS h k m z z
   refine uc 2 k z λk=>cg (λa w=>K 70 [(1,pt J)] a∧St [] E w [([J],N)]∧S8 fu D=some r) ?_ ?_
   · rintro a _ ⟨k,m,h⟩;refine gc 15 [bF m 0 A z,lF L] k z λk=>lG (λn a w=>∃ N J,K 70 [(3,I N),(54,U),(55,I (D.fU.length:Int)),(56,I J)] a∧St [] E w []∧F6 fu D n N J=some r) ?_ fu ?_
     · rintro _ a _ ⟨N,J,k,m,h⟩;refine uJ 6 h k z (λh k=>?_) λh k=>?_
       · refine oE h λ_ D h=>gc 8 [iF L D,eA (m.r L) D] k z λk=>AP m k zeroValue104 z z z z z λ_ _ a k m e D=>sT sizeOf104 m 0 D 0 k z z λ_ a k e m D=>oE h λ_ E h=>gl 6 [bA m 0 D z] k z λk=>cC k m call135 z (iJ E) λ_ e a k m=>lJ 3 h k z (λh k=>?_) λh k=>?_
         · refine uc 12 k z λk=>fS h k m z z
         exact gc 16 [bF m 0 D z] k z λk=>⟨_,_,k.p z,m.f z,h⟩
       refine uc 13 k z λk=>fS h k m z z
     exact ⟨_,_,k.p z,m.f z,h⟩
   refine oE h λ_ D h=>gc 5 [bF m 0 A z,lF O] k z λk=>cC k m call91 z (BA D) λ_ e a k m=>pN 2 k z λa k=>bT h k 36 z (λh k=>?_) λh k=>?_
   · refine ul 26 k z λk=>fS h k m z z
   refine oE h λ_ D h=>gl 2 [bF m 0 A z] k z λk=>cC k m call69 z (EA D (m.r O) ⟨133,[],z,call133,λw _ _ r e V M=>by subst V; have m:=m.step e; exact bp fu _  M⟩) λ_ e a k m=>pN 2 k rfl λa k=>bT h k 41 z (λh k=>?_) λh k=>?_
   · refine ul 21 k z λk=>fS h k m z z
   refine oE h λ_ D h=>gl 2 [bF m 0 A z] k z λk=>cC k m call91 z (BA D) λ_ e a k m=>pN 3 k z λa k=>bT h k 47 z (λh k=>?_) λh k=>?_
   · refine ul 15 k z λk=>fS h k m z z
   refine hJ 7 [bF m 0 A z,lF L] h k z (λh k=>?_) λh k=>?_
   · refine uc 7 k z λk=>fS h k m z z
   exact uc 2 k z λk=>⟨k.p z,m.f z,h⟩
 refine oE h λ_ D h=>gc 4 [bF m 0 A z] k z λk=>cC k m call91 z (BA D) λ_ e a k m=>pN 2 k z λa k=>bT h k 10 z (λh k=>?_) λh k=>?_
 · refine ul 27 k z λk=>fS h k m z z
 refine oE h λ_ D h=>gl 2 [bA m 0 A z] k z λk=>cC k m call130 z (Su D) λ_ e a k m=>pN 3 k z λa k=>bT h k 16 z (λh k=>?_) λh k=>?_
 · refine ul 21 k z λk=>fS h k m z z
 refine oE h λ_ D h=>gl 2 [bF m 0 A z] k z λk=>cC k m call91 z (BA D) λ_ e a k m=>pN 3 k z λa k=>bT h k 22 z (λh k=>?_) λh k=>?_
 · refine ul 15 k z λk=>fS h k m z z
 refine hJ 7 [bF m 0 A z,lF T] h k z (λh k=>?_) λh k=>?_
 · refine uc 7 k z λk=>fS h k m z z
 exact uc 2 k z λk=>⟨k.p z,m.f z,h⟩
theorem cy (fu) {D} (J A) {L} (E:bx D L [I A.fe,I A.fW,I A.fH,I A.fD,I A.ff,I A.fQ,I A.fd] 102) {r} (h:VA fu J A=some r):cS 136 [.agg (Flat.e (J)).toArray,pt L] D (.bool (r)):=by
 refine eg func136 z ntmps136 z λk m=>uc 2 k z λk=>AW m k z z z z z z λ_ _ a k m e A=>gl 14 [bF m 0 A z,pF (r:=[]) (E.at (m.a00 E.lt1) 0 1 z z z)] k z λk=>fS h k m z z
theorem cr (fu) {D} (J A) {L} (E:bx D L [I A.fe,I A.fW,I A.fH,I A.fD,I A.fQ,I A.fO,I A.f9] 104) {r} (h:Vt fu J A=some r):cS 137 [.agg (Flat.e (J)).toArray,pt L] D (.bool (r)):=by
 refine eg func137 z ntmps137 z λk m=>uc 2 k z λk=>AW m k z z z z z z λ_ _ a k m e A=>gl 14 [bF m 0 A z,pF (r:=[]) (E.at (m.a00 E.lt1) 0 1 z z z)] k z λk=>fS h k m z z
theorem O9 {fu D A M E N J r} (h:DJ fu A M=some r) (L:rd D N [E] A) (V:Wn Tryz.prog D J M):cS 140 [E,J] D (I r):=by
 refine eg func140 z ntmps140 z λk m=>?_;obtain ⟨Q,U,rfl,N,T⟩:=V;refine gc 14 [lF L] k z λk=>lG (λn a w=>∃ J,K 19 [(0,E),(1,(.func (.func Q) #[] U.toArray)),(7,I (A.length:Int)),(8,I J)] a∧St [] D w []∧BM fu A M n J=some r) ?_ fu ?_
 · rintro _ a _ ⟨J,k,m,h⟩;refine uJ 6 h k z (λh k=>?_) λh k=>?_
   · refine o2 h λ_ A _ D h=>gc 17 [iF L A,eA (m.r L) A] k z λk=>TT k N z z z z z z (T _ _ _ _ m.ext z D) λ_ _ O=>?_;obtain ⟨rfl,e⟩:=O;refine ⟨_,z,λa k=>?_⟩;have m:=m.step e;refine lJ 2 h k z (λh k=>?_) λh k=>?_
     · refine uc 12 k z λk=>fS h k m z z
     exact uc 8 k z λk=>⟨_,k.p z,m.f z,h⟩
   refine uc 11 k z λk=>fS h k m z z
 exact ⟨_,k.p z,m.f z,h⟩
theorem C4 {fu A J L E O D r} (h:BG fu J L=some r) (M:rd A O [E] J) (N:Wn Tryz.prog A D L):cS 66 [E,D] A (.bool (r)):=by
 refine eg func66 z ntmps66 z λk m=>?_;obtain ⟨_,_,rfl,A,D⟩:=N;refine oE h λ_ E h=>uc 9 k z λk=>cC k m call140 z (O9 E (m.r M) ⟨_,_,z,A,λw E A r e=>D w E A r (m.ext.trans e AD)⟩) λ_ e a k m=>ul 5 k z λk=>fS h k m z z
theorem cv (fu) {A} (J D) {O Q N U M T L} (E:bx A L (cR D O N M) 37) (V:rd A Q [O] D.fT) (O:rd A U [N] D.fG) (N:rd A T [M] D.fU) {r} (h:PF fu J D=some r):cS 138 [.agg (Flat.e (J)).toArray,pt L] A (.bool (r)):=by
 refine eg func138 z ntmps138 z λk m=>uc 2 k z λk=>AW m k z z z z z z λ_ _ a k m e A=>gl 11 [bF m 0 A z,pF (r:=[]) (E.at (m.a00 E.lt1) 5 1 z z z)] k z λk=>bT h k 9 z (λh k=>?_) λh k=>?_
 · refine ul 10 k z λk=>fS h k m z z
 refine gl 10 [bF m 0 A z,pF (r:=[]) (E.at (m.a00 E.lt1) 5 1 z z z)] k z λk=>fS h k m z z
theorem gb {fu N D M F3 r} (h:U2 fu D=some r) (Bl:rd N F3 M D):cS 64 [.agg M.toArray] N (.bool (r)):=by
 refine eg func64 z ntmps64 z λk m=>?_;obtain ⟨_,_,Y,_,V,_,rfl,rfl,Q,J,L⟩:=Bl;refine uc 2 k z λk=>AW m k z z z z z z λE T a k m e A=>gl 13 [bF m 0 A z,lF J] k z λk=>lG (λn a w=>∃ M,K 59 [(1,pt E),(10,Y),(11,I (D.fG.length:Int)),(12,I M)] a∧St [] N w [([E],T)]∧G8 fu D n M=some r) ?_ fu ?_
 · rintro _ a _ ⟨M,k,m,h⟩;refine uJ 6 h k z (λh k=>?_) λh k=>?_
   · refine oE h λ_ M h=>gc 9 [iF J M,eA (m.r J) M] k z λk=>AP m k zeroValue102 z z z z z λY _ a k m e M=>pN 1 k z λa k=>sT sizeOf102 m 0 M 0 k z z λ_ a k e m Bm=>oE h λ_ M h=>gl 7 [bF m 1 A z] k z λk=>ax J M k sW z z z z z z λ_ a k Ar=>pN 1 k z λa k=>oE h λ_ M h=>cC k m call69 z (EA M (m.r Ar) ⟨136,[pt Y],z,call136,λw _ _ r e Z O=>by subst Z; have m:=m.step e; exact cy fu _ _ (Bm.agr (m.a 0 rfl) AD) O⟩) λ_ e a k m=>ul 2 k z λk=>cI h k rfl (λM h=>?_) λM h=>?_
     · refine uc 11 k z λk=>fS h k m z z
     exact uc 8 k z λk=>⟨_,k.p z,m.sl [1] z,h⟩
   refine gc 15 [bF m 0 A z,lF L] k z λk=>lG (λn a w=>∃ M,K 59 [(1,pt E),(25,V),(26,I (D.fU.length:Int)),(27,I M)] a∧St [] N w [([E],T)]∧EP fu D n M=some r) ?_ fu ?_
   · rintro Y a _ ⟨M,k,m,h⟩;refine uJ 6 h k z (λh k=>?_) λh k=>?_
     · refine uc 2 k z λk=>cg (λa w=>K 59 [(1,pt E),(25,V),(26,I (D.fU.length:Int)),(27,I M)] a∧St [] N w [([E],T)]∧UU fu (EP fu D Y) M=some r) ?_ ?_
       · rintro a _ ⟨k,m,h⟩;exact uc 5 k z λk=>⟨_,k.p z,m.f z,h⟩
       refine oE h λ_ D h=>gc 6 [iF L D,eA (m.r L) D] k z λk=>AP m k zeroValue104 z z z z z λN _ a k m e D=>pN 1 k z λa k=>sT sizeOf104 m 0 D 0 k z z λ_ a k e m U=>gl 10 [bF m 0 U z,bF m 1 A z] k z λk=>bT h k 37 z (λh k=>?_) λh k=>?_
       · refine ul 21 k z λk=>fS h k m z z
       refine oE h λ_ D h=>gl 3 [bF m 1 A z] k z λk=>ax L D k vd z z z z z z λ_ a k D=>pN 1 k z λa k=>oE h λ_ M h=>cC k m call66 z (C4 M (m.r D) ⟨137,[pt N],z,call137,λw _ _ r e Bd O=>by subst Bd; have m:=m.step e; exact cr fu _ _ (U.agr (m.a 0 rfl) AD) O⟩) λ_ e a k m=>pN 1 k rfl λa k=>ul 2 k z λk=>cI h k rfl (λD h=>?_) λD h=>?_
       · refine uc 11 k z λk=>fS h k m z z
       exact uc 3 k z λk=>⟨k.p z,m.sl [1] z,h⟩
     refine oE h λ_ D h=>gc 8 [bA m 0 A z] k z λk=>cC k m call62 z (WD D (AE (m.r Q) (m.r J) (m.r L))) λ_ e a k m=>pN 3 k z λa k=>AP m k zeroValue102 z z z z z λ_ _ a k m e D=>sT sizeOf102 m 0 D 0 k z z λ_ a k e m _=>ul 7 k z λk=>bT h k 52 z (λh k=>?_) λh k=>?_
     · refine oE h λ_ D h=>gl 3 [bF m 1 A z] k z λk=>cC k m call131 z (HN D (m.r Q) ⟨138,[pt E],z,call138,λw _ _ r e Bb O=>by subst Bb; have m:=m.step e; exact cv fu _ _ (A.agr (m.a 1 rfl) AD) (m.r Q) (m.r J) (m.r L) O⟩) λ_ e a k m=>pN 3 k rfl λa k=>ul 3 k z λk=>fS h k m rfl rfl
     refine ul 10 k z λk=>fS h k m z z
   exact ⟨_,k.p z,m.f z,h⟩
 exact ⟨_,k.p z,m.f z,h⟩
theorem TC {fu E A D J L r} (h:F8 fu A D=some r) (M:rd E L [J] A):cS 247 [J,.agg (Flat.e (D)).toArray] E (I r):=by
 refine eg func247 z ntmps247 z λk m=>uc 2 k z λk=>AW m k z z z z z z λN O a k m e Q=>gl 12 [lF M] k z λk=>lG (λn a w=>∃ L,K 19 [(0,J),(3,pt N),(7,I (A.length:Int)),(8,I L)] a∧St [] E w [([N],O)]∧BZ fu A D n L=some r) ?_ fu ?_
 · rintro _ a _ ⟨L,k,m,h⟩;refine uJ 6 h k z (λh k=>?_) λh k=>?_
   · refine uc 11 k z λk=>dI [] m z λA m s=>oE h λJ E h=>dr [1,2,0,3,4] 5 [bA A 0 Q z,iF M E,eA (A.r M) E] k z s λk=>dT k 5 z z s (λw s=>yN wZ (x:=D) (y:=J) k z z z z z) λa k=>dD ((AF ?_));refine cJ h k z (λh=>?_) λh=>?_
     · refine uc 12 k z λk=>fS h k m z z
     exact uc 8 k z λk=>⟨_,k.p z,m.f z,h⟩
   refine uc 11 k z λk=>fS h k m z z
 exact ⟨_,k.p z,m.f z,h⟩
theorem PR (fu) {A} (E J) {D M} (L:rd A M [D] E) {r} (h:FG fu E J=some r):cS 201 [D,.agg (Flat.e (J)).toArray] A (.bool (r)):=by
 refine eg func201 z ntmps201 z λk m=>uc 2 k z λk=>AW m k z z z z z z λ_ _ a k m e D=>oE h λ_ A h=>gl 7 [bA m 0 D z] k z λk=>cC k m call247 z (TC A (m.r L)) λ_ e a k m=>ul 5 k z λk=>fS h k m z z
theorem RT {fu E L D A J N r} (h:J1 fu L D A=some r) (M:rd E N [J] L):cS 139 [J,I D,I A] E (.bool (r)):=by
 refine eg func139 z ntmps139 z λk m=>uc 10 k z λk=>sv k z (AN fp k (cs:=#[I D,I A]) (ps:=[(0,.tmp 8),(1,.tmp 9)]) z z AQ) λa k=>oE h λ_ E h=>cC k m call201 z (PR fu _ (⟨D,A⟩:Pair) (m.r M) E) λ_ e a k m=>ul 4 k z λk=>fS h k m z z
theorem eM {fu J E A L D r} (h:Vd fu E A=some r) (N:rd J D [L] E):cS 65 [L,I A] J (.bool (r)):=by
 refine eg func65 z ntmps65 z λk m=>oE h λ_ D h=>uc 9 k z λk=>cC k m call91 z (BA D) λ_ e a k m=>lJ 3 h k z (λh k=>?_) λh k=>?_
 · refine uc 7 k z λk=>fS h k m z z
 refine uc 10 k z λk=>lG (λn a w=>∃ D,K 34 [(0,L),(1,I A),(10,I A),(11,I D)] a∧St [] J w []∧GW fu E A n D=some r) ?_ fu ?_
 · rintro O a _ ⟨D,k,m,h⟩;refine uJ 6 h k z (λh k=>?_) λh k=>?_
   · refine oE h λ_ M h=>uc 16 k z λk=>cC k m call139 z (RT M (m.r N)) λ_ e a k m=>lJ 3 h k z (λh k=>?_) λh k=>?_
     · refine uc 12 k z λk=>fS h k m z z
     refine uc 9 k z λk=>lG (λn a w=>∃ M,K 34 [(0,L),(1,I A),(5,I D),(10,I A),(11,I D),(19,I A),(20,I M)] a∧St [] J w []∧G4 fu (GW fu E A O) E A D n M=some r) ?_ fu ?_
     · rintro _ a _ ⟨M,k,m,h⟩;refine uJ 6 h k z (λh k=>?_) λh k=>?_
       · refine oE h λ_ A h=>uc 15 k z λk=>cC k m call139 z (RT A (m.r N)) λ_ e a k m=>pN 3 k z λa k=>oE h λ_ A h=>cC k m call139 z (RT A (m.r N)) λ_ e a k m=>sv k z (s0 k underlying4 z z z) λa k=>lJ 2 h k z (λh k=>?_) λh k=>?_
         · refine uc 15 k z λk=>fS h k m z z
         exact uc 8 k z λk=>⟨_,k.p z,m.f z,h⟩
       exact uc 11 k z λk=>⟨_,k.p z,m.f z,h⟩
     exact ⟨_,k.p z,m.f z,h⟩
   refine uc 11 k z λk=>fS h k m z z
 exact ⟨_,k.p z,m.f z,h⟩
theorem HX {fu:Nat} {A:World} {D:List Int} {E:Value} {J:List Nat} {r:List Int} (h:CL fu D=some r) (L:ow A J [E] D):
    Calls Tryz.prog 74 #[E] A λe w=>∃ H:List Nat,e=.returned (.tuple #[])∧Ext J A w∧(∀ b∈H,b∈J∨A.heap.size≤b)∧ow w H [E] r :=
  (qu (λA off cap E w=>Tryz.slices_Sort_int A off cap E w) (λp cap w=>Tryz.slices_Sort_int_none p cap w) D L h).mono λe w ⟨A,D,E⟩=>⟨_,A,D,λb A=>.inl A,E⟩
theorem di {fu w0 E D r} (h:WA fu E D=some r):cS 68 [.agg (Flat.e (E)).toArray,.agg (Flat.e (D)).toArray] w0 (.bool (r)):=by
 refine eg func68 z ntmps68 z λk m=>uc 2 k z λk=>AW m k z z z z z z λb3 w5 a k m e M=>AW m k z z z z z z λb6 w9 a k m e N=>ul 3 k z λk=>cg (λa w=>∃ T A V U Z Q Y J,K 57 [(2,pt b3),(3,pt b6),(5,A),(6,Q)] a∧St [] w0 w [([b3],w5),([b6],w9),(V,U),(Y,J)]∧ow U V [A] T∧ow J Y [Q] Z∧XH fu E D T Z=some r) ?_ ?_
 · rintro a _ ⟨T,A,V,U,Z,Q,Y,J,k,m,A,Bs,h⟩;refine oE h λ_ J h=>uc 3 k z λk=>sC k call74 z (HX J (m.v A 2 z)) λ_ _ O=>?_;obtain ⟨_,rfl,e,A,L⟩:=O;refine ⟨_,z,λa k=>?_⟩;have m:=m.mt 2 z e A L;refine oE h λ_ A h=>ul 5 k z λk=>sC k call74 z (HX A (m.v Bs 3 z)) λ_ _ O=>?_;obtain ⟨_,rfl,e,A,J⟩:=O;refine ⟨_,z,λa k=>?_⟩;have m:=m.mt 3 z e A J;refine ul 3 k z λk=>dI [] m z λA m s=>o2 h λ_ Q _ O h=>dr [0,3,1,2,4,5,6,7] 8 [iF (Enc.ow_rd L) Q,eF (A.q L 2 z) Q 0,iF (Enc.ow_rd J) O,eF (A.q J 3 z) O 0] k z s λk=>bT h k 32 z (λh k=>?_) λh k=>?_
   · refine o2 h λ_ O _ Q h=>dr [8,11,9,10,12,13,14,15,16] 9 [iF (Enc.ow_rd L) O,eF (A.q L 2 z) O 0,iF (Enc.ow_rd J) Q,eF (A.q J 3 z) Q 0] k z s λk=>bT h k 41 z (λh k=>?_) λh k=>?_
     · refine o2 h λ_ O _ Q h=>dr [17,20,18,19,21,22,23,24,25] 9 [iF (Enc.ow_rd L) O,eF (A.q L 2 z) O 0,iF (Enc.ow_rd J) Q,eF (A.q J 3 z) Q 0] k z s λk=>bT h k 50 z (λh k=>?_) λh k=>?_
       · refine dr [26,27,28,29,30,31,32] 7 [bF A 0 M z,bF A 1 N z] k z s λk=>dD ?_;refine (AF ?_);refine wp_ret (fS h k m z z)
       refine dM [26,27,28,29,30,31,32] 7 z k z s λa k=>dD ?_;refine (AF ?_);refine wp_ret (fS h k m z z)
     refine dM [17,18,19,20,21,22,23,24,25,26,27,28,29,30,31,32] 16 z k z s λa k=>dD ?_;refine (AF ?_);refine wp_ret (fS h k m z z)
   refine dM [8,9,10,11,12,13,14,15,16,17,18,19,20,21,22,23,24,25,26,27,28,29,30,31,32] 25 z k z s λa k=>dD ?_;refine (AF ?_);refine wp_ret (fS h k m z z)
 refine dI [] m z λA m s=>dr [0,1,2,3,4,5,7,8,9,10,11,12] 12 [bF A 1 M z,bF A 1 M z,bF A 1 M z,bF A 0 N z,bF A 0 N z,bF A 0 N z] k z s λk=>Vr 6 13 AQ z z ?_ ?_
 · refine BD AV m k z z z z z z z A1 z (by exact fC z (fC z (fC z fN))) λ_ _ _ a k m e A J=>?_;have L:=s.lo J;have J:=AO A ([E.fW,E.fH,E.fD]:List Int) z z z;refine ns s e λs=>dM [14] 1 z k z s λa k=>dG 13 z (BD AV m k z z z z z z z A1 z (by exact fC z (fC z (fC z fN))) λ_ _ _ a k m e L A=>?_);have M:=s.lo A;have A:=AO L ([D.fW,D.fH,D.fD]:List Int) z z z;refine ns s e λs=>dM [15] 1 z k z s λa k=>dD ((AF ?_));exact ⟨_,_,_,_,_,_,_,_,k.p z,m.sl [3,2,1,0] z,J,A,h⟩
 refine BD AV m k z z z z z z z A1 z (by exact fC z (fC z (fC z fN))) λ_ _ _ a k m e A J=>?_;have L:=s.lo J;have J:=AO A ([D.fW,D.fH,D.fD]:List Int) z z z;refine ns s e λs=>dG 6 z (BD AV m k z z z z z z z A1 z (by exact fC z (fC z (fC z fN))) λ_ _ _ a k m e A D=>?_);have L:=s.lo D;have D:=AO A ([E.fW,E.fH,E.fD]:List Int) z z z;refine ns s e λs=>dM [14,15] 2 z k z s λa k=>dD ((AF ?_));exact ⟨_,_,_,_,_,_,_,_,k.p z,m.sl [3,2,0,1] z,D,J,h⟩
theorem gw (fu) {D} (L A) {J} (E:bx D J [I A.fe,I A.fW,I A.fH,I A.fD,I A.ff,I A.fQ,I A.fd] 102) {r} (h:Uq fu L A=some r):cS 67 [.agg (Flat.e (L)).toArray,pt J] D (.bool (r)):=by
 refine eg func67 z ntmps67 z λk m=>uc 2 k z λk=>AW m k z z z z z z λ_ _ a k m e A=>gl 6 [bA m 0 A z] k z λk=>sv k z (DV YT (E.at (m.a00 E.lt1) 0 7 z z z) z k z z) λa k=>oE h λ_ A h=>cC k m call68 z (di A) λ_ e a k m=>ul 5 k z λk=>fS h k m z z
theorem ie (fu) {E} (L D) {J} (A:bx E J [I D.fW,I D.fD,I D.fH,I D.fQ] 32) {r} (h:UQ fu L D=some r):cS 70 [.agg (Flat.e (L)).toArray,pt J] E (.bool (r)):=by
 refine eg func70 z ntmps70 z λk m=>uc 2 k z λk=>AW m k z z z z z z λ_ _ a k m e D=>gl 11 [bF m 0 D z,pF (r:=[]) (A.at (m.a00 A.lt1) 0 1 z z z)] k z λk=>bT h k 9 z (λh k=>?_) λh k=>?_
 · refine ul 27 k z λk=>fS h k m z z
 refine gl 7 [bF m 0 D z,pF (r:=[]) (A.at (m.a00 A.lt1) 1 1 z z z)] k z λk=>bT h k 16 z (λh k=>?_) λh k=>?_
 · refine ul 20 k z λk=>fS h k m z z
 refine gl 7 [bF m 0 D z,pF (r:=[]) (A.at (m.a00 A.lt1) 2 1 z z z)] k z λk=>bT h k 23 z (λh k=>?_) λh k=>?_
 · refine ul 13 k z λk=>fS h k m z z
 refine gl 13 [bF m 0 D z,bF m 0 D z,pF (r:=[]) (A.at (m.a00 A.lt1) 3 1 z z z)] k z λk=>fS h k m z z
theorem bm {fu D E M Y r} (h:U3 fu E=some r) (N:rd D Y M E):cS 26 [.agg M.toArray] D (I r):=by
 refine eg func26 z ntmps26 z λk m=>?_;obtain ⟨_,_,_,_,_,_,rfl,rfl,E,J,D⟩:=N;refine uc 2 k z λk=>AW m k z z z z z z λ_ _ a k m e A=>oE h λ_ M h=>gl 6 [bA m 0 A z] k z λk=>cC k m call62 z (WD M (AE (m.r E) (m.r J) (m.r D))) λ_ e a k m=>pN 3 k z λa k=>AP m k zeroValue102 z z z z z λN _ a k m e M=>sT sizeOf102 m 0 M 0 k z z λ_ a k e m Q=>gl 7 [bA m 1 A z] k z λk=>AP m k zeroValue32 z z z z z λV _ a k m e M=>sT sizeOf32 m 0 M 0 k z z λ_ a k e m U=>oE h λ_ M h=>gl 7 [bA m 2 A z] k z λk=>cC k m call63 z (dY M (AE (m.r E) (m.r J) (m.r D))) λ_ e a k m=>ul 4 k z λk=>?_;refine cJ h k z (λh=>?_) λh=>?_
 · refine uc 8 k z λk=>fS h k m z z
 refine oE h λ_ M h=>gc 3 [bA m 2 A z] k z λk=>cC k m call64 z (gb M (AE (m.r E) (m.r J) (m.r D))) λ_ e a k m=>lJ 4 h k z (λh k=>?_) λh k=>?_
 · refine uc 8 k z λk=>fS h k m z z
 refine oE h λ_ M h=>gc 6 [bF m 2 A z,bF m 2 A z] k z λk=>cC k m call65 z (eM M (m.r E)) λ_ e a k m=>lJ 4 h k z (λh k=>?_) λh k=>?_
 · refine uc 8 k z λk=>fS h k m z z
 refine oE h λ_ E h=>gc 5 [bF m 2 A z] k z λk=>cC k m call66 z (C4 E (m.r D) ⟨67,[pt N],z,call67,λw _ _ r e O L=>by subst O; have m:=m.step e; exact gw fu _ _ (Q.agr (m.a 1 rfl) AD) L⟩) λ_ e a k m=>pN 1 k rfl λa k=>ul 2 k z λk=>cI h k rfl (λD h=>?_) λD h=>?_
 · refine uc 8 k z λk=>fS h k m z z
 refine oE h λ_ D h=>gc 5 [bF m 2 A z] k z λk=>cC k m call69 z (EA D (m.r J) ⟨70,[pt V],z,call70,λw _ _ r e T L=>by subst T; have m:=m.step e; exact ie fu _ _ (U.agr (m.a 0 rfl) AD) L⟩) λ_ e a k m=>pN 1 k rfl λa k=>ul 2 k z λk=>cI h k rfl (λA h=>?_) λA h=>?_
 · refine uc 8 k z λk=>fS h k m z z
 refine uc 9 k z λk=>fS h k m z z
theorem Xz {fu A E r} (h:LJ fu E=some r) (L:Te Tryz.prog A):cS 8 [.string (E)] A (I r):=by
 refine eg func8 z ntmps8 z λk m=>oE h λ_ A h=>uc 8 k z λk=>sC k call11 z (PL A (m.te L)) λ_ _ J=>?_;obtain ⟨_,_,rfl,e,D,A⟩:=J;refine ⟨_,z,λa k=>?_⟩;have m:=m.nw e A D;obtain ⟨_,_,_,_,_,_,rfl,rfl,J,A,E,_⟩:=D;have m:=m.split2;have m:=m.split2at1;refine pN 3 k z λa k=>AP m k zeroValue37 z z z z z λ_ _ a k m e D=>sT sizeOf37 m 0 D 0 k z (AH z (AH z (AH z (AH z (AH z (AH z (AH (A5 (Enc.ow_rd J)) (AH (A5 (Enc.ow_rd A)) (AH z (AH (A5 (Enc.ow_rd E)) DR)))))))))) λ_ a k e m L=>lJ 10 h k z (λh k=>?_) λh k=>?_
 · refine uc 7 k z λk=>fS h k m z z
 refine oE h λ_ D h=>gc 5 [bA m 0 L z] k z λk=>cC k m call26 z (bm D (AE (m.q J 1 z) (m.q A 2 z) (m.q E 3 z))) λ_ e a k m=>ul 4 k z λk=>fS h k m z z
theorem JW {fu D E A L r} (h:FZ fu E=some r) (J:rd D L A E):cS 48 [.agg A.toArray] D (.bool (r)):=by
 refine eg func48 z ntmps48 z λk m=>?_;obtain ⟨_,_,_,_,_,_,rfl,rfl,A,E,D⟩:=J;refine uc 2 k z λk=>AW m k z z z z z z λ_ _ a k m e J=>oE h λ_ L h=>gl 6 [bA m 0 J z] k z λk=>cC k m call26 z (bm L (AE (m.r A) (m.r E) (m.r D))) λ_ e a k m=>ul 5 k z λk=>fS h k m z z
theorem JU {fu A J D L r} (h:D5 fu J=some r) (E:rd A L [D] J):cL 231 [D] A r:=by
 refine eg func231 z ntmps231 z λk m=>uc 9 k z λk=>?_;obtain ⟨A,J,D⟩:=wD E;refine sv k z (D k underlying64 z z z) λa k=>ul 2 k z λk=>sG (b:=A) k z (λA=>?_) (λA=>?_)
 · have D:=J A;rw [D] at h;have h:some (([]:List Int))=some r:=h;refine uc 7 k z λk=>?_;cases h;exact C7 k z (RV.tmp k z) ⟨_,[],z,m.ext,(A0 _),AD⟩
 refine uc 4 k z λk=>sB AV m k z (by exact fN) λ_ _ _ a k m e A=>?_;have D:=AO A ([]:List Int) z z z;exact pN 1 k z λa k=>oE h λ_ A h=>BX A AV z m 0 D (News.rd (m.r E)) z z k z z z z z z z λ_ _ _ a k e m A=>ul 4 k z λk=>fL h k m A 0 z z
theorem X4 {fu:Nat} {A:World} {E:List Int} {J:Value} {D:List Nat} {r:List Int} (h:K2 fu E=some r) (M:ow A D [J] E):
    Calls Tryz.prog 232 #[J] A λe w=>∃ (J:Value) (L:List Nat),e=.returned J∧Ext D A w∧ow w L [J] r∧(∀ b∈L,b∈D∨A.heap.size≤b) :=
  kN (λA off cap D w=>Tryz.slices_Compact_int A off cap D w) (λp cap w=>Tryz.slices_Compact_int_empty p cap w) E M h
theorem bg {fu E D J M r} (h:LU fu D=some r) (L:rd E M [J] D):cL 172 [J] E r:=by
 refine eg func172 z ntmps172 z λk m=>oE h λ_ D h=>uc 8 k z λk=>sL k m call231 z (JU D (m.r L)) λ_ _ _ E k m=>oE h λ_ D h=>ul 6 k z λk=>sC k call74 z (HX D (m.v E 0 z)) λ_ _ A=>?_;obtain ⟨_,rfl,e,E,D⟩:=A;refine ⟨_,z,λa k=>?_⟩;have m:=m.mt 0 z e E D;refine oE h λ_ E h=>ul 5 k z λk=>sC k call232 z (X4 E (m.v D 0 z)) λ_ _ A=>?_;obtain ⟨_,_,rfl,e,D,E⟩:=A;refine ⟨_,z,λa k=>?_⟩;have m:=m.mt 0 z e E D;exact ul 4 k z λk=>fL h k m D 0 z z
theorem fw {fu J D A L r} (h:TX fu D=some r) (E:rd J L A D):cL 106 [.agg A.toArray] J r:=by
 refine eg func106 z ntmps106 z λk m=>?_;obtain ⟨_,_,_,_,Q,_,rfl,rfl,N,M,A⟩:=E;refine uc 2 k z λk=>AW m k z z z z z z λ_ _ a k m e E=>oE h λ_ L h=>gl 7 [bA m 0 E z] k z λk=>cC k m call48 z (JW L (AE (m.r N) (m.r M) (m.r A))) λ_ e a k m=>lJ 3 h k z (λh k=>?_) λh k=>?_
 · refine uc 7 k z λk=>?_;cases h;exact C7 k z (RV.tmp k z) ⟨_,[],z,m.ext,(A0 _),AD⟩
 refine uc 4 k z λk=>sB AV m k z (by exact fN) λ_ _ _ a k m e L=>?_;have T:=AO L ([]:List Int) z z z;refine gl 13 [bF m 1 E z,lF A] k z λk=>lG (λn a w=>∃ L E N O M,K 25 [(3,E),(11,Q),(12,I (D.fU.length:Int)),(13,I M)] a∧St [] J w [(N,O)]∧ow O N [E] L∧I8 fu D n L M=some r) ?_ fu ?_
 · rintro _ a _ ⟨L,E,N,O,M,k,m,D,h⟩;refine uJ 6 h k z (λh k=>?_) λh k=>?_
   · refine oE h λJ E h=>gc 8 [iF A E,eA (m.r A) E] k z λk=>AP m k zeroValue104 z z z z z λ_ _ a k m e A=>sT sizeOf104 m 0 A 0 k z z λ_ a k e m A=>gl 6 [bF m 0 A z] k z λk=>sB AV m k z (by exact fC z fN) λ_ _ _ a k m e E=>?_;have A:=AO E ([J.fO]:List Int) z z z;exact oE h λ_ E h=>BX E AV z m 2 D (News.rd (m.q A 0 z)) z z k z z z z z z z λ_ _ _ a k e m A=>ul 9 k z λk=>⟨_,_,_,_,_,k.p z,m.sl [2] z,A,h⟩
   exact oE h λ_ A h=>uc 8 k z λk=>sL k m call172 z (bg A (m.q D 0 z)) λ_ _ _ A k m=>ul 4 k z λk=>fL h k m A 0 z z
 exact ⟨_,_,_,_,_,k.p z,m.f z,T,h⟩
theorem iy {fu D L M J E N r} (h:V0 fu L M J=some r) (A:rd D N [E] L):cS 176 [E,I M,I J] D (.bool (r)):=by
 refine eg func176 z ntmps176 z λk m=>oE h λ_ D h=>uc 10 k z λk=>cC k m call139 z (RT D (m.r A)) λ_ e a k m=>pN 1 k z λa k=>bT h k 11 z (λh k=>?_) λh k=>?_
 · refine pN 3 k z λa k=>oE h λ_ D h=>cC k m call139 z (RT D (m.r A)) λ_ e a k m=>ul 5 k z λk=>fS h k m z z
 refine ul 9 k z λk=>fS h k m z z
theorem aO (fu) {A} (E O J) {D L M} (N:bx A M [D] 33) (Q:rd A L [D] O) {L} (D:bx A L [I J] 3) {r} (h:NV fu E O J=some r):cS 175 [I E,pt M,pt L] A (.bool (r)):=by
 refine eg func175 z ntmps175 z λk m=>oE h λ_ A h=>gc 10 [pF (r:=[]) (N.at (m.a00 N.lt1) 0 1 z z z),pF (r:=[]) (D.at (m.a00 D.lt1) 0 1 z z z)] k z λk=>cC k m call176 z (iy A (m.r Q)) λ_ e a k m=>ul 5 k z λk=>fS h k m z z
theorem N0 {fu D A M E N J r} (h:EY fu A M=some r) (L:rd D N [E] A) (V:Wn Tryz.prog D J M):cS 220 [E,J] D (I r):=by
 refine eg func220 z ntmps220 z λk m=>?_;obtain ⟨Q,U,rfl,N,T⟩:=V;refine gc 14 [lF L] k z λk=>lG (λn a w=>∃ J,K 19 [(0,E),(1,(.func (.func Q) #[] U.toArray)),(7,I (A.length:Int)),(8,I J)] a∧St [] D w []∧DE fu A M n J=some r) ?_ fu ?_
 · rintro _ a _ ⟨J,k,m,h⟩;refine uJ 6 h k z (λh k=>?_) λh k=>?_
   · refine o2 h λ_ A _ D h=>gc 17 [iF L A,eF (m.r L) A 0] k z λk=>TT k N z z z z z z (T _ _ _ _ m.ext z D) λ_ _ O=>?_;obtain ⟨rfl,e⟩:=O;refine ⟨_,z,λa k=>?_⟩;have m:=m.step e;refine lJ 2 h k z (λh k=>?_) λh k=>?_
     · refine uc 12 k z λk=>fS h k m z z
     exact uc 8 k z λk=>⟨_,k.p z,m.f z,h⟩
   refine uc 11 k z λk=>fS h k m z z
 exact ⟨_,k.p z,m.f z,h⟩
theorem LP {fu A J L E O D r} (h:D1 fu J L=some r) (M:rd A O [E] J) (N:Wn Tryz.prog A D L):cS 154 [E,D] A (.bool (r)):=by
 refine eg func154 z ntmps154 z λk m=>?_;obtain ⟨_,_,rfl,A,D⟩:=N;refine oE h λ_ E h=>uc 9 k z λk=>cC k m call220 z (N0 E (m.r M) ⟨_,_,z,A,λw E A r e=>D w E A r (m.ext.trans e AD)⟩) λ_ e a k m=>ul 5 k z λk=>fS h k m z z
theorem dS (fu) {A} (Q O M) {L D} (Y:rd A D [L] Q) {E V D} (N:bx A D [E] 33) (T:rd A V [E] O) {E} (J:bx A E [I M] 3) {r} (h:Sg fu Q O M=some r):cS 174 [L,pt D,pt E] A (.bool (r)):=by
 refine eg func174 z ntmps174 z λk m=>oE h λ_ A h=>uc 9 k z λk=>cC k m call154 z (LP A (m.r Y) ⟨175,[pt D,pt E],z,call175,λw _ _ r e Z U=>by subst Z; have m:=m.step e; exact aO fu _ _ _ (N.agr (m.a00 N.lt1) AD) (m.r T) (J.agr (m.a00 J.lt1) AD) U⟩) λ_ e a k m=>pN 2 k rfl λa k=>ul 3 k z λk=>fS h k m rfl rfl
theorem Nu {fu D E M J F3 L r} (h:EQ fu E M=some r) (A:rd D F3 [J] E) (Y:Wn Tryz.prog D L M):cS 173 [J,L] D (I r):=by
 refine eg func173 z ntmps173 z λk m=>?_;obtain ⟨T,O,rfl,Ao,e⟩:=Y;refine gc 14 [lF A] k z λk=>lG (λn a w=>∃ L,K 19 [(0,J),(1,(.func (.func T) #[] O.toArray)),(7,I (E.length:Int)),(8,I L)] a∧St [] D w []∧CY fu E M n L=some r) ?_ fu ?_
 · rintro _ a _ ⟨L,k,m,h⟩;refine uJ 6 h k z (λh k=>?_) λh k=>?_
   · refine oE h λ_ D h=>gc 16 [iF A D] k z λk=>?_;obtain ⟨_,Z,_,N,Q,U⟩:=AR A (AG D).2.2;obtain ⟨_,rfl⟩:∃ v,Z=[v]:=by obtain ⟨_,_,D,_⟩:=N; exact ⟨_,D⟩
     refine oE h λ_ D h=>gl 1 [pF (Q.agr (m.a00 (Enc.rd_lt A)) U)] k z λk=>TT k Ao z z z z z z (e _ _ _ _ m.ext ⟨_,(m.r N)⟩ D) λ_ _ V=>?_;obtain ⟨rfl,e⟩:=V;refine ⟨_,z,λa k=>?_⟩;have m:=m.step e;refine lJ 2 h k z (λh k=>?_) λh k=>?_
     · refine uc 12 k z λk=>fS h k m z z
     exact uc 8 k z λk=>⟨_,k.p z,m.f z,h⟩
   refine uc 11 k z λk=>fS h k m z z
 exact ⟨_,k.p z,m.f z,h⟩
theorem iG {fu N Y V v2 F3 O F7 r} (h:We fu Y V=some r) (Ax:rd N F3 [v2] Y) (Az:rd N F7 [O] V):cL 105 [v2,O] N r:=by
 refine eg func105 z ntmps105 z λk m=>uc 2 k z λk=>AW m k z z z z z (CJ Ax) λM U a k m e Cj=>ul 5 k z λk=>sB Rm m k z (by exact fN) λ_ _ _ a k m e O=>?_;have Cz:=QX (α:=List Int) O;refine oE h λV O h=>ul 7 k z λk=>sL k m call172 z (bg O (m.r Az)) λT Bj Q Ah k m=>gl 5 [lF (Enc.ow_rd Ah)] k z λk=>lG (λn a w=>∃ Ag Af L Aj O,K 42 [(2,pt M),(5,Af),(11,Bj),(12,I (V.length:Int)),(13,I O)] a∧St [] N w [([M],U),(Q,T),(L,Aj)]∧ow Aj L [Af] Ag∧GI fu Y V n Ag O=some r) ?_ fu ?_
 · rintro Dh a _ ⟨Ag,Af,L,Aj,O,k,m,D,h⟩;refine uJ 6 h k z (λh k=>?_) λh k=>?_
   · refine uc 2 k z λk=>cg (λa w=>∃ Al Ap Ak Ar,K 42 [(2,pt M),(5,Ap),(11,Bj),(12,I (V.length:Int)),(13,I O)] a∧St [] N w [([M],U),(Q,T),(Ak,Ar)]∧ow Ar Ak [Ap] Al∧LG fu (GI fu Y V Dh) O Al=some r) ?_ ?_
     · rintro a _ ⟨Al,Ap,Ak,Ar,k,m,N,h⟩;exact uc 5 k z λk=>⟨_,_,_,_,_,k.p z,m.f z,N,h⟩
     refine oE h λAd N h=>gc 5 [iF (Enc.ow_rd Ah) N,eF (m.q Ah 1 z) N 0] k z λk=>AP m k zeroValue3 z z z z z λAy _ a k m e N=>sT sizeOf3 m 0 N 0 k z z λBl a k e m Z=>oE h λ_ N h=>gl 6 [bF m 0 Z z] k z λk=>cC k m call91 z (BA N) λ_ e a k m=>lJ 3 h k z (λh k=>?_) λh k=>?_
     · exact uc 4 k z λk=>⟨_,_,_,_,k.p z,m.sl [1,2,3] z,D,h⟩
     refine oE h λ_ N h=>uc 6 k z λk=>cC k m call173 z (Nu N (m.q D 3 z) ⟨174,[pt M,pt Ay],z,call174,λw _ _ r e N O=>by obtain ⟨_,N⟩:=N; have m:=m.step e; exact dS fu _ _ _ N (m.y Cj 1 z) (m.r Ax) (m.y Z 0 z) O⟩) λ_ e a k m=>lJ 9 h k z (λh k=>?_) λh k=>?_
     · refine gc 3 [bF m 0 Z z] k z λk=>sB AV m k z (by exact fC z fN) λBk _ _ a k m e O=>?_;have N:=AO O ([Ad]:List Int) z z z;refine sB Rm m k z (by exact (List.forall_mem_cons.2 ⟨congrArg Array.size (CJ (Enc.ow_rd N)),fN⟩)) λ_ _ _ a k m e Y=>oE h λ_ V h=>?_;have O:=Enc.ow_agr N (m.a 1 z);have Di:=News.box Y (m.a 0 z) AD (m:=1);have N:=m.a 5 z;have m:=m.sl [5,1,0,2,3,4] z;have m:=m.join2;exact D8 (F:=L) (G:=[Bk]) V Rm z m D N Di O (Agr.refl _ _) k z z z z z z λ_ _ _ a k e m N=>ul 4 k z λk=>⟨_,_,_,_,k.p z,m.sl [3,4,0] z,N,h⟩
     refine dI (L) m z λAn m s=>dM [0,1,2,3] 4 z k z s λa k=>oE h λ_ E h=>dT k 4 z z s (λw s=>BK (Enc.ow_rd D) E k dA z z z) λa k=>?_;obtain ⟨_,Eb,_,Bt,_,_⟩:=AR (Enc.ow_rd D) (AG E).2.2;obtain ⟨_,rfl⟩:∃ v,Eb=[v]:=by obtain ⟨_,_,J,_⟩:=Bt; exact ⟨_,J⟩
     refine dT k 6 z z s (λw s=>A9 GP (r:=[]) (Z.at (An.az 0 3 z z z s) 0 1 z z z) k z z) λa k=>?_;obtain ⟨_,Ef,_,Dm,_,_⟩:=AR (Enc.ow_rd D) (AG E).2.2;obtain ⟨_,rfl⟩:∃ v,Ef=[v]:=by obtain ⟨_,_,J,_⟩:=Dm; exact ⟨_,J⟩
     refine Vr 5 7 AQ z z ?_ ?_ 
     · obtain ⟨_,Ci,_,Ec,Bc,Cv⟩:=AR (Enc.ow_rd D) (AG E).2.2;obtain ⟨_,rfl⟩:∃ v,Ci=[v]:=by obtain ⟨_,_,J,_⟩:=Ec; exact ⟨_,J⟩
       refine gl 1 [pF (Bc.agr (m.a 3 z) Cv)] k z λk=>wpList_nil ⟨s,?_⟩;refine dG 7 z (BD AV m k z z z z z z z A1 z (by exact fC z fN) λN Z _ a k m e V O=>?_);have Y:=s.lo O;have Y:=AO V ([Ad]:List Int) z z z;refine ns s e λs=>dG 8 z ?_;obtain ⟨_,_,m,Dv,Db,V,O⟩:=m.opnS 4 z D E Bc z (M':=[([N],Z),([Ay],Bl),([M],U),(Q,T)]) z;refine oE h λ_ N h=>AZ N AV z m 1 Db (News.rd (m.q Y 2 z)) z z k z z z z z z z λDc Z _ a k e m N Y=>?_;have Ev:∀ y∈Z,y∈(L)∨_≤y:=λy A=>(Y y A).elim (λA=>(λy A=>(λy A=>Or.inl A) y (O y A)) y A) (λh=>Or.inr (Nat.le_trans s.size h));refine nt (λy A=>Or.inl (O y A)) s e λs=>oE h λ_ _ h=>dT k 9 z z s (λw s=>BK (Enc.ow_rd D) E k dA z z z) λa k=>dG 10 z (SU (α:=List Int) (sz:=1) (cs':=[Dc]) sizeOf64 m 0 Dv 0 k (CJ (Enc.ow_rd N)) (A5 (Enc.ow_rd N)) z z z z z z z z z z λ_ a k e m O=>?_);obtain ⟨_,m,Y⟩:=(m.sl [0,1,2,3,4,5] z).cls O N;refine nt (λy A=>Or.inl (V y A)) s e λs=>dD ?_;refine (ue 2 k z λk=>?_);exact ⟨_,_,_,_,k.p z,m.sl [3,4,0] z,Y,h⟩
     refine BD AV m k z z z z z z z A1 z (by exact fC z fN) λBw Cn _ a k m e N O=>?_;have V:=s.lo O;have Df:=AO N ([Ad]:List Int) z z z;refine ns s e λs=>?_;obtain ⟨_,Cy,_,Bq,_,Gc⟩:=AR (Enc.ow_rd D) (AG E).2.2;obtain ⟨_,rfl⟩:∃ v,Cy=[v]:=by obtain ⟨_,_,J,_⟩:=Bq; exact ⟨_,J⟩
     refine dG 5 z ?_;obtain ⟨_,Ce,_,Cl,Bd,Cq⟩:=AR (Enc.ow_rd D) (AG E).2.2;obtain ⟨_,rfl⟩:∃ v,Ce=[v]:=by obtain ⟨_,_,J,_⟩:=Cl; exact ⟨_,J⟩
     refine gl 1 [pF (Bd.agr (m.a 4 z) Cq)] k z λk=>wpList_nil ⟨s,?_⟩;refine dG 8 z ?_;obtain ⟨_,_,m,V,J,O,N⟩:=m.opnS 4 z D E Bd z (M':=[([Bw],Cn),([Ay],Bl),([M],U),(Q,T)]) z;refine oE h λ_ M h=>AZ M AV z m 1 J (News.rd (m.q Df 2 z)) z z k z z z z z z z λQ M _ a k e m J T=>?_;have U:∀ y∈M,y∈(L)∨_≤y:=λy A=>(T y A).elim (λA=>(λy A=>(λy A=>Or.inl A) y (N y A)) y A) (λh=>Or.inr (Nat.le_trans s.size h));refine nt (λy A=>Or.inl (N y A)) s e λs=>oE h λEz _ h=>dT k 9 z z s (λw s=>BK (Enc.ow_rd D) E k dA z z z) λa k=>dG 10 z (SU (α:=List Int) (sz:=1) (cs':=[Q]) sizeOf64 m 0 V 0 k (CJ (Enc.ow_rd J)) (A5 (Enc.ow_rd J)) z z z z z z z z z z λ_ a k e m E=>?_);obtain ⟨_,m,L⟩:=(m.sl [0,1,2,3,4,5] z).cls E J;refine nt (λy A=>Or.inl (O y A)) s e λs=>dD ?_;refine (ue 2 k z λk=>?_);exact ⟨_,_,_,_,k.p z,m.sl [3,4,0] z,L,h⟩
   exact uc 12 k z λk=>fL h k m D 2 z z
 exact ⟨_,_,_,_,_,k.p z,m.sl [2,0,1] z,Cz,h⟩
end Go.Proofs.YtdgpkmgnjdpieaaGreatDoor
