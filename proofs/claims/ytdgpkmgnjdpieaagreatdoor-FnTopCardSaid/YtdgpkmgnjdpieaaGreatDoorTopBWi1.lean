/- FnTop: the walks of .. -/
import Derived.Test.YtdgpkmgnjdpieaaGreatDoorTopBT
set_option maxRecDepth 20000
set_option linter.unusedSimpArgs false
set_option linter.unusedVariables false
set_option linter.unnecessarySimpa false
namespace Go.Proofs.YtdgpkmgnjdpieaaGreatDoor
open Go Go.RowKit
open Enc (rd ow)
open Arg (argv)
open Ret (retv)
open Go.Proofs.Tryz
theorem Xt {fu Q A D r} (h:L8 fu A D=some r):cL 30 [.string (A),.int .u8 (D)] Q r:=by
 refine eg func30 z ntmps30 z λk m=>uc 7 k z λk=>sB XS m k z (by exact fN) λ_ _ _ a k m e E=>?_;have V:=AO E ([]:List ByteArray) z z z;refine ul 15 k z λk=>lG (λn a w=>∃ M L O J N E,K 35 [(0,.string (A)),(1,.int .u8 (D)),(5,L),(6,I N),(7,I E)] a∧St [] Q w [(O,J)]∧ow J O [L] M∧JL fu A D n M N E=some r) ?_ fu ?_
 · rintro U a _ ⟨M,L,O,J,N,E,k,m,M,h⟩;refine uc 5 k z λk=>sv k z (c8 k underlying9 z z) λa k=>lJ 3 h k z (λh k=>?_) λh k=>?_
   · refine uc 2 k z λk=>cg (λa w=>∃ N J L T O,K 35 [(0,.string (A)),(1,.int .u8 (D)),(5,J),(6,I O),(7,I E)] a∧St [] Q w [(L,T)]∧ow T L [J] N∧SB fu (JL fu A D U) E N O=some r) ?_ ?_
     · rintro a _ ⟨N,J,L,T,O,k,m,A,h⟩;exact uc 6 k z λk=>⟨_,_,_,_,_,_,k.p z,m.f z,A,h⟩
     refine oE h λ_ A h=>uc 5 k z λk=>sv k z (mj A k underlying9 z z z) λa k=>lJ 4 h k z (λh k=>?_) λh k=>?_
     · refine oE h λD A h=>uc 6 k z λk=>sv k z (tE A k underlying9 z z z z) λa k=>sB XS m k z (by exact fC z fN) λ_ _ _ a k m e E=>?_;have A:=AO E ([D]:List ByteArray) z z z;exact oE h λ_ D h=>BX D XS z m 1 M (News.rd (m.q A 0 z)) z z k z z z z z z z λ_ _ _ a k e m A=>ul 10 k z λk=>⟨_,_,_,_,_,k.p z,m.sl [1] z,A,h⟩
     exact uc 3 k z λk=>⟨_,_,_,_,_,k.p z,m.f z,M,h⟩
   refine oE h λE A h=>uc 10 k z λk=>sv k z (ww A k underlying9 z z z) λa k=>sB XS m k z (by exact fC z fN) λ_ _ _ a k m e D=>?_;have A:=AO D ([E]:List ByteArray) z z z;exact oE h λ_ D h=>BX D XS z m 1 M (News.rd (m.q A 0 z)) z z k z z z z z z z λ_ _ _ a k e m A=>ul 4 k z λk=>fL h k m A 1 z z
 exact ⟨_,_,_,_,_,_,k.p z,m.f z,V,h⟩
theorem gK {fu:Nat} {A:World} {J:ByteArray} {r:Int×Bool} (h:XH fu J=some r) (O:Te Tryz.prog A):
    Calls Tryz.prog 226 #[.string J] A λe w=>∃ (D:Value),e=.returned (.tuple #[I r.1,D])∧Ext [] A w∧isErr D r.2 :=
  wF (λs A v D w=>Tryz.strconv_Atoi_ok s A v D w) (λs A D M E p w L=>(Tryz.strconv_Atoi_syntax_var s A D M E p w L).mono λe w ⟨n,N,_,_,M⟩=>⟨_,_,N,M⟩) (λs A D E p w L=>(Tryz.strconv_Atoi_range_var s A D E p w L).mono λe w ⟨n,N,_,_,M⟩=>⟨_,_,N,M⟩) O J h
theorem BA {fu E n1 A D r} (h:A8 fu n1 A D=some r):cS 91 [I n1,I A,I D] E (.bool (r)):=by
 refine eg func91 z ntmps91 z λk m=>uc 11 k z λk=>bT h k 10 z (λh k=>?_) λh k=>?_
 · refine ul 8 k z λk=>fS h k m z z
 refine ul 8 k z λk=>fS h k m z z
theorem e7 {fu:Nat} {D:World} {A:Int} {r:ByteArray} (h:XN fu A=some r) (E:Te Tryz.prog D):
    Calls Tryz.prog 167 #[I A] D λe w=>e=.returned (.string r)∧Ext [] D w :=
  xl (λn D J w L=>Tryz.strconv_Itoa n D J w L) E.t A h
theorem ae {fu A n1 r} (h:RM fu n1=some r) (D:Te Tryz.prog A):cS 94 [I n1] A (.string (r)):=by
 refine eg func94 z ntmps94 z λk m=>oE h λ_ A h=>uc 8 k z λk=>cC k m call167 z (e7 A (m.te D)) λ_ e a k m=>ul 4 k z λk=>fS h k m z z
theorem jk {fu A J r} (h:K0 fu J=some r) (D:Te Tryz.prog A):cS 166 [.string (J)] A (.tuple #[I r.1,.bool (r.2)]):=by
 refine eg func166 z ntmps166 z λk m=>oE h λE J h=>uc 9 k z λk=>sC k call226 z (gK J (m.te D)) λ_ _ L=>?_;obtain ⟨_,rfl,e,J⟩:=L;refine ⟨_,z,λa k=>?_⟩;have m:=m.step e;refine ul 7 k z λk=>cg (λa w=>K 25 [(4,I E.1)] a∧St [] A w []∧VG fu E=some r) ?_ ?_
 · rintro a _ ⟨k,m,h⟩;refine uc 8 k z λk=>?_;cases h;exact B4 k z (RV.tmp k z) (RV.tmp k z) ⟨z,m.ext⟩
 refine uc 3 k z λk=>sv k z (yA J k AQ z z z) λa k=>pN 1 k z λa k=>bT h k 13 z (λh k=>?_) λh k=>?_
 · refine ul 21 k z λk=>?_;cases h;exact B4 k z (RV.tmp k z) (RV.tmp k z) ⟨z,m.ext⟩
 refine pN 1 k z λa k=>oE h λ_ A h=>cC k m call91 z (BA A) λ_ e a k m=>pN 3 k z λa k=>bT h k 18 z (λh k=>?_) λh k=>?_
 · refine ul 16 k z λk=>?_;cases h;exact B4 k z (RV.tmp k z) (RV.tmp k z) ⟨z,m.ext⟩
 refine pN 1 k z λa k=>oE h λ_ A h=>cC k m call94 z (ae A (m.te D)) λ_ e a k m=>lJ 5 h k z (λh k=>?_) λh k=>?_
 · refine uc 8 k z λk=>?_;cases h;exact B4 k z (RV.tmp k z) (RV.tmp k z) ⟨z,m.ext⟩
 exact uc 2 k z λk=>⟨k.p z,m.f z,h⟩
theorem KC {fu A J E D r} (h:B6 fu J E D=some r) (V:Te Tryz.prog A):Calls Tryz.prog 90 #[.string (J),.string (E),I D] A λe w=>∃ (E:Value) (D:List Nat),e=.returned (.tuple #[E,.bool (r.2)])∧Ext [] A w∧ow w D [E] r.1∧(∀ b∈D,A.heap.size≤b):=by
 refine eg (vs:=[_,_,_]) func90 z ntmps90 z λk m=>oE h λJ D h=>uc 9 k z λk=>sL k m call30 z (Xt D) λU E T D k m=>ul 3 k z λk=>cg (λa w=>K 49 [(8,E)] a∧St [] A w [(T,U)]∧T9 fu J=some r) ?_ ?_
 · rintro a _ ⟨k,m,h⟩;refine uc 2 k z λk=>sB AV m k z (by exact fN) λ_ _ _ a k m e E=>?_;have Y:=AO E ([]:List Int) z z z;refine oE h λQ E h=>ul 7 k z λk=>cX D E k vj z z z z z z λZ a k M=>gl 5 [lF (Enc.ow_rd M)] k z λk=>lG (λn a w=>∃ L J E N O,K 49 [(9,J),(30,Z),(31,I (Q.length:Int)),(32,I O)] a∧St [] A w [(T,U),(E,N)]∧ow N E [J] L∧HA fu Q n L O=some r) ?_ fu ?_
   · rintro _ a _ ⟨L,J,E,N,O,k,m,A,h⟩;refine uJ 6 h k z (λh k=>?_) λh k=>?_
     · refine o2 h λ_ J N L h=>gc 14 [iF (Enc.ow_rd M) J,eF (m.q M 0 z) J 0] k z λk=>cC k m call166 z (jk L (m.te V)) λ_ e a k m=>lJ 14 h k z (λh k=>?_) λh k=>?_
       · refine uc 13 k z λk=>?_;cases h;exact B4 k z (RV.tmp k z) (RV.tmp k z) ⟨_,[],z,m.ext,(A0 _),AD⟩
       refine uc 5 k z λk=>sB AV m k z (by exact fC z fN) λ_ _ _ a k m e J=>?_;have L:=AO J ([N.1]:List Int) z z z;exact oE h λ_ J h=>BX J AV z m 2 A (News.rd (m.q L 0 z)) z z k z z z z z z z λ_ _ _ a k e m J=>ul 9 k z λk=>⟨_,_,_,_,_,k.p z,m.sl [1,2] z,J,h⟩
     refine uc 13 k z λk=>?_;cases h;exact B4 k z (RV.tmp k z) (RV.tmp k z) ⟨_,E,z,m.ext,(m.v A 1 z),(m.fresh 1 z)⟩
   exact ⟨_,_,_,_,_,k.p z,m.sl [1,0] z,Y,h⟩
 refine oE h λ_ A h=>gc 8 [iF (Enc.ow_rd D) A,eF (m.q D 0 z) A 0] k z λk=>bT h k 21 z (λh k=>?_) λh k=>?_
 · refine ul 17 k z λk=>?_;cases h;exact B4 k z (RV.tmp k z) (RV.tmp k z) ⟨_,[],z,m.ext,(A0 _),AD⟩
 refine hJ 8 [lF (Enc.ow_rd D)] h k z (λh k=>?_) λh k=>?_
 · refine uc 8 k z λk=>?_;cases h;exact B4 k z (RV.tmp k z) (RV.tmp k z) ⟨_,[],z,m.ext,(A0 _),AD⟩
 exact uc 2 k z λk=>⟨k.p z,m.f z,h⟩
theorem gi {fu O A Bz F2 J r} (h:UI fu A Bz=some r) (Dr:obx O F2 J A 37) (hT:∀ w1,Ext F2 O w1→Te Tryz.prog w1):Calls Tryz.prog 31 #[.pointer (some ⟨J,0,none⟩),.string (Bz)] O λe w=>∃ (H0:List Nat),e=.returned (I r.1)∧Ext F2 O w∧(∀ b∈H0,b∈F2∨O.heap.size≤b)∧obx w H0 J r.2 37:=by
 refine eg (vs:=[_,_]) func31 z ntmps31 z λk _=>?_;obtain ⟨v6,T,v9,Q,Aj,U,N,V,Y,Z,m⟩:=Dr.start;refine uJ 18 h k z (λh k=>?_) λh k=>?_
 · refine uc 5 k z λk=>sT sizeOf3 m 0 N 0 k z z λ_ a k e m O=>ul 10 k z λk=>?_;cases h;exact C5 k z (RV.tmp k z) ⟨([J]++(T++(Q++U))),z,m.ext,(λb L=>(m.sl [0,1,2,3] z).lo b (by simpa [EC] using L)),(obx.fin (x:=(⟨0,A.fJ,A.fR,A.fT,A.fG,A.fP,A.fU⟩:Request)) (m.y O 0 z) (m.v V 1 z) (m.v Y 2 z) (m.v Z 3 z) (by simpa [EC] using (m.sl [0,1,2,3] z).nd))⟩
 refine uJ 6 h k z (λh k=>?_) λh k=>?_
 · refine uc 5 k z λk=>sT sizeOf3 m 0 N 0 k z z λ_ a k e m O=>ul 10 k z λk=>?_;cases h;exact C5 k z (RV.tmp k z) ⟨([J]++(T++(Q++U))),z,m.ext,(λb L=>(m.sl [0,1,2,3] z).lo b (by simpa [EC] using L)),(obx.fin (x:=(⟨1,A.fJ,A.fR,A.fT,A.fG,A.fP,A.fU⟩:Request)) (m.y O 0 z) (m.v V 1 z) (m.v Y 2 z) (m.v Z 3 z) (by simpa [EC] using (m.sl [0,1,2,3] z).nd))⟩
 refine oE h λ_ O h=>uc 7 k z λk=>sC k call90 z (KC O (hT _ m.ext)) λ_ _ hR=>?_;obtain ⟨_,_,rfl,e,O,Ey⟩:=hR;refine ⟨_,z,λa k=>?_⟩;have m:=m.nw e Ey O;refine lJ 12 h k z (λh k=>?_) λh k=>?_
 · refine uc 1 k z λk=>dI ([J]) m z λM m s=>dM [0,1,4,7,10] 5 z k z s λa k=>oE h λBj Bs h=>dT k 2 z z s (λw s=>BK (Enc.ow_rd O) Bs k FY z z z) λa k=>dT k 3 z z s (λw s=>CI (Enc.ow_rd O) (M.az 0 1 z z z s) Bs 0 GP k z z z z) λa k=>oE h λBi Bw h=>dT k 5 z z s (λw s=>BK (Enc.ow_rd O) Bw k FY z z z) λa k=>dT k 6 z z s (λw s=>CI (Enc.ow_rd O) (M.az 0 1 z z z s) Bw 0 GP k z z z z) λa k=>oE h λBh Bt h=>dT k 8 z z s (λw s=>BK (Enc.ow_rd O) Bt k FY z z z) λa k=>dT k 9 z z s (λw s=>CI (Enc.ow_rd O) (M.az 0 1 z z z s) Bt 0 GP k z z z z) λa k=>oE h λBk Cp h=>dT k 11 z z s (λw s=>BK (Enc.ow_rd O) Cp k FY z z z) λa k=>dT k 12 z z s (λw s=>CI (Enc.ow_rd O) (M.az 0 1 z z z s) Cp 0 GP k z z z z) λa k=>dT k 13 z z s (λw s=>AN ub k (cs:=#[I Bj,I Bi,I Bh,I Bk]) (ps:=[(0,.tmp 37),(1,.tmp 40),(2,.tmp 43),(3,.tmp 46)]) z z AQ) λa k=>dT k 14 z z s (λw s=>KT k z z) λa k=>?_;refine dF k 15 kC z s λa k=>dG 16 z (sT sizeOf32 m 1 N 1 k z z λ_ a k e m O=>?_);refine nt iL s e λs=>dD ?_;refine (AF ?_);refine uc 7 k z λk=>?_;cases h;exact C5 k z (RV.tmp k z) ⟨([J]++(T++(Q++U))),z,m.ext,(λb L=>(m.sl [1,2,3,4] z).lo b (by simpa [EC] using L)),(obx.fin (x:=(⟨A.fc,(⟨Bj,Bi,Bh,Bk⟩:Pallet),A.fR,A.fT,A.fG,A.fP,A.fU⟩:Request)) (m.y O 1 z) (m.v V 2 z) (m.v Y 3 z) (m.v Z 4 z) (by simpa [EC] using (m.sl [1,2,3,4] z).nd))⟩
 refine oE h λ_ O h=>uc 6 k z λk=>sC k call90 z (KC O (hT _ m.ext)) λ_ _ hR=>?_;obtain ⟨_,_,rfl,e,O,Dt⟩:=hR;refine ⟨_,z,λa k=>?_⟩;have m:=m.nw e Dt O;refine lJ 12 h k z (λh k=>?_) λh k=>?_
 · refine oE h λCs Cd h=>gc 8 [iF (Enc.ow_rd O) Cd,eF (m.q O 0 z) Cd 0] k z λk=>sT sizeOf3 m 2 N 5 k z z λ_ a k e m O=>ul 9 k z λk=>?_;cases h;exact C5 k z (RV.tmp k z) ⟨([J]++(T++(Q++U))),z,m.ext,(λb L=>(m.sl [2,3,4,5] z).lo b (by simpa [EC] using L)),(obx.fin (x:=(⟨A.fc,A.fJ,Cs,A.fT,A.fG,A.fP,A.fU⟩:Request)) (m.y O 2 z) (m.v V 3 z) (m.v Y 4 z) (m.v Z 5 z) (by simpa [EC] using (m.sl [2,3,4,5] z).nd))⟩
 refine oE h λ_ O h=>uc 6 k z λk=>sC k call90 z (KC O (hT _ m.ext)) λ_ _ hR=>?_;obtain ⟨_,_,rfl,e,O,Fq⟩:=hR;refine ⟨_,z,λa k=>?_⟩;have m:=m.nw e Fq O;refine lJ 12 h k z (λh k=>?_) λh k=>?_
 · refine uc 1 k z λk=>dI (T++([J])) m z λM m s=>?_;have D:=(M.sel [4,3,0,1,2,5,6] z A1).join2;refine dM [0,1,5,8] 4 z k z s λa k=>dT k 2 z z s (λw s=>KT k z z) λa k=>dF k 3 UJ z s λa k=>oE h λAp Ce h=>dT k 6 z z s (λw s=>BK (Enc.ow_rd O) Ce k FY z z z) λa k=>dT k 7 z z s (λw s=>CI (Enc.ow_rd O) (D.az 1 0 z z z s) Ce 0 GP k z z z z) λa k=>oE h λAw Ct h=>dT k 9 z z s (λw s=>BK (Enc.ow_rd O) Ct k FY z z z) λa k=>dT k 10 z z s (λw s=>CI (Enc.ow_rd O) (D.az 1 0 z z z s) Ct 0 GP k z z z z) λa k=>dT k 11 z z s (λw s=>AN gk k (cs:=#[I Ap,I Aw]) (ps:=[(0,.tmp 75),(1,.tmp 78)]) z z AQ) λa k=>VC 4 12 AQ z z ?_ ?_
   · refine gl 1 [bF m 3 N z] k z λk=>wpList_nil ⟨s,?_⟩;refine dG 12 z (BD bO m k z z z z z z z A1 z (by exact fC z fN) λ_ _ _ a k m e O Dm=>?_);have Hp:=s.lo Dm;have Ex:=AO O ([(⟨Ap,Aw⟩:Pair)]:List Pair) z z z;refine ns s e λs=>dG 13 z (oE h λDb O h=>AZ O bO z m 5 V (News.rd (m.q Ex 0 z)) z z k z z z z z z z λEk Cb _ a k e m O Fj=>?_);have Il:∀ y∈Cb,y∈(T++([J]))∨_≤y:=λy E=>(Fj y E).elim (λE=>(λy E=>Or.inl (List.mem_append_left _ E)) y E) (λh=>Or.inr (Nat.le_trans s.size h));refine nt iA s e λs=>dT k 14 z z s (λw s=>KT k z z) λa k=>dF k 15 UJ z s λa k=>dG 16 z (CN (cs':=(cR A Ek v9 Aj)) sizeOf33 m 4 N 6 k (CK (Enc.ow_rd O)) (A5 (Enc.ow_rd O)) z z z z z z z z z λ_ a k e m Dq=>?_);refine nt iB s e λs=>dD ((AF ?_));refine uc 7 k z λk=>?_;cases h;exact C5 k z (RV.tmp k z) ⟨([J]++(Cb++(Q++U))),z,m.ext,(λb L=>(m.sl [4,5,6,7] z).lo b (by simpa [EC] using L)),(obx.fin (x:=(⟨A.fc,A.fJ,A.fR,Db,A.fG,A.fP,A.fU⟩:Request)) (m.y Dq 4 z) (m.v O 5 z) (m.v Y 6 z) (m.v Z 7 z) (by simpa [EC] using (m.sl [4,5,6,7] z).nd))⟩
   refine BD bO m k z z z z z z z A1 z (by exact fC z fN) λ_ _ _ a k m e Fu O=>?_;have Hq:=s.lo O;have Dk:=AO Fu ([(⟨Ap,Aw⟩:Pair)]:List Pair) z z z;refine ns s e λs=>dG 4 z (gl 1 [bF m 4 N z] k z λk=>wpList_nil ⟨s,?_⟩);refine dG 13 z (oE h λDc O h=>AZ O bO z m 5 V (News.rd (m.q Dk 0 z)) z z k z z z z z z z λDl Ca _ a k e m O Ds=>?_);have Ht:∀ y∈Ca,y∈(T++([J]))∨_≤y:=λy E=>(Ds y E).elim (λE=>(λy E=>Or.inl (List.mem_append_left _ E)) y E) (λh=>Or.inr (Nat.le_trans s.size h));refine nt iA s e λs=>dT k 14 z z s (λw s=>KT k z z) λa k=>dF k 15 UJ z s λa k=>dG 16 z (CN (cs':=(cR A Dl v9 Aj)) sizeOf33 m 4 N 6 k (CK (Enc.ow_rd O)) (A5 (Enc.ow_rd O)) z z z z z z z z z λ_ a k e m Ei=>?_);refine nt iB s e λs=>dD ((AF ?_));refine uc 7 k z λk=>?_;cases h;exact C5 k z (RV.tmp k z) ⟨([J]++(Ca++(Q++U))),z,m.ext,(λb L=>(m.sl [4,5,6,7] z).lo b (by simpa [EC] using L)),(obx.fin (x:=(⟨A.fc,A.fJ,A.fR,Dc,A.fG,A.fP,A.fU⟩:Request)) (m.y Ei 4 z) (m.v O 5 z) (m.v Y 6 z) (m.v Z 7 z) (by simpa [EC] using (m.sl [4,5,6,7] z).nd))⟩
 refine oE h λ_ O h=>uc 6 k z λk=>sC k call90 z (KC O (hT _ m.ext)) λ_ _ hR=>?_;obtain ⟨_,_,rfl,e,O,Ff⟩:=hR;refine ⟨_,z,λa k=>?_⟩;have m:=m.nw e Ff O;refine lJ 12 h k z (λh k=>?_) λh k=>?_
 · refine uc 1 k z λk=>dI (Q++([J])) m z λM m s=>?_;have D:=(M.sel [6,4,0,1,2,3,5,7] z A1).join2;refine dM [0,1,5,8,11,14,17,20,23] 9 z k z s λa k=>dT k 2 z z s (λw s=>KT k z z) λa k=>dF k 3 I1 z s λa k=>oE h λAl Cm h=>dT k 6 z z s (λw s=>BK (Enc.ow_rd O) Cm k FY z z z) λa k=>dT k 7 z z s (λw s=>CI (Enc.ow_rd O) (D.az 1 0 z z z s) Cm 0 GP k z z z z) λa k=>oE h λAr Cn h=>dT k 9 z z s (λw s=>BK (Enc.ow_rd O) Cn k FY z z z) λa k=>dT k 10 z z s (λw s=>CI (Enc.ow_rd O) (D.az 1 0 z z z s) Cn 0 GP k z z z z) λa k=>oE h λAy Cl h=>dT k 12 z z s (λw s=>BK (Enc.ow_rd O) Cl k FY z z z) λa k=>dT k 13 z z s (λw s=>CI (Enc.ow_rd O) (D.az 1 0 z z z s) Cl 0 GP k z z z z) λa k=>oE h λAx Bo h=>dT k 15 z z s (λw s=>BK (Enc.ow_rd O) Bo k FY z z z) λa k=>dT k 16 z z s (λw s=>CI (Enc.ow_rd O) (D.az 1 0 z z z s) Bo 0 GP k z z z z) λa k=>oE h λAs Br h=>?_;refine dT k 18 z z s (λw s=>BK (Enc.ow_rd O) Br k FY z z z) λa k=>dT k 19 z z s (λw s=>CI (Enc.ow_rd O) (D.az 1 0 z z z s) Br 0 GP k z z z z) λa k=>oE h λAv Cc h=>dT k 21 z z s (λw s=>BK (Enc.ow_rd O) Cc k FY z z z) λa k=>dT k 22 z z s (λw s=>CI (Enc.ow_rd O) (D.az 1 0 z z z s) Cc 0 GP k z z z z) λa k=>oE h λAq Cq h=>dT k 24 z z s (λw s=>BK (Enc.ow_rd O) Cq k FY z z z) λa k=>dT k 25 z z s (λw s=>CI (Enc.ow_rd O) (D.az 1 0 z z z s) Cq 0 GP k z z z z) λa k=>dT k 26 z z s (λw s=>AN Xc k (cs:=#[I Al,I Ar,I Ay,I Ax,I As,I Av,I Aq]) (ps:=[(0,.tmp 97),(1,.tmp 100),(2,.tmp 103),(3,.tmp 106),(4,.tmp 109),(5,.tmp 112),(6,.tmp 115)]) z z AQ) λa k=>VC 4 27 AQ z z ?_ ?_
   · refine gl 1 [bF m 4 N z] k z λk=>wpList_nil ⟨s,?_⟩;refine dG 27 z (BD Pz m k z z z z z z z A1 z (by exact fC z fN) λ_ _ _ a k m e Dn O=>?_);have Hc:=s.lo O;have O:=AO Dn ([(⟨Al,Ar,Ay,Ax,As,Av,Aq⟩:Typ)]:List Typ) z z z;refine ns s e λs=>dG 28 z (oE h λFz Fw h=>AZ Fw Pz z m 7 Y (News.rd (m.q O 0 z)) z z k z z z z z z z λEa Bu _ a k e m O Dv=>?_);have Ir:∀ y∈Bu,y∈(Q++([J]))∨_≤y:=λy E=>(Dv y E).elim (λE=>(λy E=>Or.inl (List.mem_append_left _ E)) y E) (λh=>Or.inr (Nat.le_trans s.size h));refine nt iA s e λs=>dT k 29 z z s (λw s=>KT k z z) λa k=>dF k 30 I1 z s λa k=>dG 31 z (CN (cs':=(cR A v6 Ea Aj)) sizeOf34 m 5 N 7 k (CK (Enc.ow_rd O)) (A5 (Enc.ow_rd O)) z z z z z z z z z λ_ a k e m Du=>?_);refine nt iB s e λs=>dD ?_;refine (AF ?_);refine uc 7 k z λk=>?_;cases h;exact C5 k z (RV.tmp k z) ⟨([J]++(T++(Bu++U))),z,m.ext,(λb L=>(m.sl [5,6,7,8] z).lo b (by simpa [EC] using L)),(obx.fin (x:=(⟨A.fc,A.fJ,A.fR,A.fT,Fz,A.fP,A.fU⟩:Request)) (m.y Du 5 z) (m.v V 6 z) (m.v O 7 z) (m.v Z 8 z) (by simpa [EC] using (m.sl [5,6,7,8] z).nd))⟩
   refine BD Pz m k z z z z z z z A1 z (by exact fC z fN) λ_ _ _ a k m e Dp O=>?_;have Ik:=s.lo O;have O:=AO Dp ([(⟨Al,Ar,Ay,Ax,As,Av,Aq⟩:Typ)]:List Typ) z z z;refine ns s e λs=>dG 4 z (gl 1 [bF m 5 N z] k z λk=>wpList_nil ⟨s,?_⟩);refine dG 28 z (oE h λEz Es h=>AZ Es Pz z m 7 Y (News.rd (m.q O 0 z)) z z k z z z z z z z λFl Cj _ a k e m O Fn=>?_);have Hl:∀ y∈Cj,y∈(Q++([J]))∨_≤y:=λy E=>(Fn y E).elim (λE=>(λy E=>Or.inl (List.mem_append_left _ E)) y E) (λh=>Or.inr (Nat.le_trans s.size h));refine nt iA s e λs=>dT k 29 z z s (λw s=>KT k z z) λa k=>dF k 30 I1 z s λa k=>dG 31 z (CN (cs':=(cR A v6 Fl Aj)) sizeOf34 m 5 N 7 k (CK (Enc.ow_rd O)) (A5 (Enc.ow_rd O)) z z z z z z z z z λ_ a k e m Dg=>?_);refine nt iB s e λs=>dD ?_;refine (AF ?_);refine uc 7 k z λk=>?_;cases h;exact C5 k z (RV.tmp k z) ⟨([J]++(T++(Cj++U))),z,m.ext,(λb L=>(m.sl [5,6,7,8] z).lo b (by simpa [EC] using L)),(obx.fin (x:=(⟨A.fc,A.fJ,A.fR,A.fT,Ez,A.fP,A.fU⟩:Request)) (m.y Dg 5 z) (m.v V 6 z) (m.v O 7 z) (m.v Z 8 z) (by simpa [EC] using (m.sl [5,6,7,8] z).nd))⟩
 refine oE h λ_ O h=>uc 6 k z λk=>sC k call90 z (KC O (hT _ m.ext)) λ_ _ hR=>?_;obtain ⟨_,_,rfl,e,O,Fb⟩:=hR;refine ⟨_,z,λa k=>?_⟩;have m:=m.nw e Fb O;refine lJ 12 h k z (λh k=>?_) λh k=>?_
 · refine oE h λBp Cg h=>gc 8 [iF (Enc.ow_rd O) Cg,eF (m.q O 0 z) Cg 0] k z λk=>sT sizeOf3 m 5 N 8 k z z λ_ a k e m O=>ul 9 k z λk=>?_;cases h;exact C5 k z (RV.tmp k z) ⟨([J]++(T++(Q++U))),z,m.ext,(λb L=>(m.sl [5,6,7,8] z).lo b (by simpa [EC] using L)),(obx.fin (x:=(⟨A.fc,A.fJ,A.fR,A.fT,A.fG,Bp,A.fU⟩:Request)) (m.y O 5 z) (m.v V 6 z) (m.v Y 7 z) (m.v Z 8 z) (by simpa [EC] using (m.sl [5,6,7,8] z).nd))⟩
 refine oE h λ_ O h=>uc 6 k z λk=>sC k call90 z (KC O (hT _ m.ext)) λ_ _ hR=>?_;obtain ⟨_,_,rfl,e,O,Ej⟩:=hR;refine ⟨_,z,λa k=>?_⟩;have m:=m.nw e Ej O;refine lJ 12 h k z (λh k=>?_) λh k=>?_
 · refine uc 1 k z λk=>dI (U++([J])) m z λM m s=>?_;have D:=(M.sel [9,6,0,1,2,3,4,5,7,8] z A1).join2;refine dM [0,1,5,8,11,14,17,20,23] 9 z k z s λa k=>dT k 2 z z s (λw s=>KT k z z) λa k=>dF k 3 W7 z s λa k=>oE h λBb M h=>dT k 6 z z s (λw s=>BK (Enc.ow_rd O) M k FY z z z) λa k=>dT k 7 z z s (λw s=>CI (Enc.ow_rd O) (D.az 1 0 z z z s) M 0 GP k z z z z) λa k=>oE h λBa M h=>dT k 9 z z s (λw s=>BK (Enc.ow_rd O) M k FY z z z) λa k=>dT k 10 z z s (λw s=>CI (Enc.ow_rd O) (D.az 1 0 z z z s) M 0 GP k z z z z) λa k=>oE h λAz M h=>dT k 12 z z s (λw s=>BK (Enc.ow_rd O) M k FY z z z) λa k=>dT k 13 z z s (λw s=>CI (Enc.ow_rd O) (D.az 1 0 z z z s) M 0 GP k z z z z) λa k=>oE h λM Bx h=>dT k 15 z z s (λw s=>BK (Enc.ow_rd O) Bx k FY z z z) λa k=>dT k 16 z z s (λw s=>CI (Enc.ow_rd O) (D.az 1 0 z z z s) Bx 0 GP k z z z z) λa k=>oE h λAt Ck h=>?_;refine dT k 18 z z s (λw s=>BK (Enc.ow_rd O) Ck k FY z z z) λa k=>dT k 19 z z s (λw s=>CI (Enc.ow_rd O) (D.az 1 0 z z z s) Ck 0 GP k z z z z) λa k=>oE h λAo Co h=>dT k 21 z z s (λw s=>BK (Enc.ow_rd O) Co k FY z z z) λa k=>dT k 22 z z s (λw s=>CI (Enc.ow_rd O) (D.az 1 0 z z z s) Co 0 GP k z z z z) λa k=>oE h λAm Ci h=>dT k 24 z z s (λw s=>BK (Enc.ow_rd O) Ci k FY z z z) λa k=>dT k 25 z z s (λw s=>CI (Enc.ow_rd O) (D.az 1 0 z z z s) Ci 0 GP k z z z z) λa k=>dT k 26 z z s (λw s=>AN Zf k (cs:=#[I Bb,I Ba,I Az,I M,I At,I Ao,I Am]) (ps:=[(0,.tmp 146),(1,.tmp 149),(2,.tmp 152),(3,.tmp 155),(4,.tmp 158),(5,.tmp 161),(6,.tmp 164)]) z z AQ) λa k=>VC 4 27 AQ z z ?_ ?_
   · refine gl 1 [bF m 6 N z] k z λk=>wpList_nil ⟨s,?_⟩;refine dG 27 z (BD Y5 m k z z z z z z z A1 z (by exact fC z fN) λ_ _ _ a k m e O D=>?_);have Gu:=s.lo D;have D:=AO O ([(⟨Bb,Ba,Az,M,At,Ao,Am⟩:Item)]:List Item) z z z;refine ns s e λs=>dG 28 z (oE h λEf O h=>AZ O Y5 z m 10 Z (News.rd (m.q D 0 z)) z z k z z z z z z z λEn O _ a k e m D Fd=>?_);have Ih:∀ y∈O,y∈(U++([J]))∨_≤y:=λy E=>(Fd y E).elim (λE=>(λy E=>Or.inl (List.mem_append_left _ E)) y E) (λh=>Or.inr (Nat.le_trans s.size h));refine nt iA s e λs=>dT k 29 z z s (λw s=>KT k z z) λa k=>dF k 30 W7 z s λa k=>dG 31 z (CN (cs':=(cR A v6 v9 En)) sizeOf35 m 7 N 9 k (CK (Enc.ow_rd D)) (A5 (Enc.ow_rd D)) z z z z z z z z z λ_ a k e m Fs=>?_);refine nt iB s e λs=>dD ?_;refine (AF ?_);refine uc 7 k z λk=>?_;cases h;exact C5 k z (RV.tmp k z) ⟨([J]++(T++(Q++O))),z,m.ext,(λb L=>(m.sl [7,8,9,10] z).lo b (by simpa [EC] using L)),(obx.fin (x:=(⟨A.fc,A.fJ,A.fR,A.fT,A.fG,A.fP,Ef⟩:Request)) (m.y Fs 7 z) (m.v V 8 z) (m.v Y 9 z) (m.v D 10 z) (by simpa [EC] using (m.sl [7,8,9,10] z).nd))⟩
   refine BD Y5 m k z z z z z z z A1 z (by exact fC z fN) λ_ _ _ a k m e O D=>?_;have Hg:=s.lo D;have D:=AO O ([(⟨Bb,Ba,Az,M,At,Ao,Am⟩:Item)]:List Item) z z z;refine ns s e λs=>dG 4 z (gl 1 [bF m 7 N z] k z λk=>wpList_nil ⟨s,?_⟩);refine dG 28 z (oE h λDj M h=>AZ M Y5 z m 10 Z (News.rd (m.q D 0 z)) z z k z z z z z z z λO M _ a k e m D Eb=>?_);have Gm:∀ y∈M,y∈(U++([J]))∨_≤y:=λy E=>(Eb y E).elim (λE=>(λy E=>Or.inl (List.mem_append_left _ E)) y E) (λh=>Or.inr (Nat.le_trans s.size h));refine nt iA s e λs=>dT k 29 z z s (λw s=>KT k z z) λa k=>dF k 30 W7 z s λa k=>dG 31 z (CN (cs':=(cR A v6 v9 O)) sizeOf35 m 7 N 9 k (CK (Enc.ow_rd D)) (A5 (Enc.ow_rd D)) z z z z z z z z z λ_ a k e m E=>?_);refine nt iB s e λs=>dD ?_;refine (AF ?_);refine uc 7 k z λk=>?_;cases h;exact C5 k z (RV.tmp k z) ⟨([J]++(T++(Q++M))),z,m.ext,(λb L=>(m.sl [7,8,9,10] z).lo b (by simpa [EC] using L)),(obx.fin (x:=(⟨A.fc,A.fJ,A.fR,A.fT,A.fG,A.fP,Dj⟩:Request)) (m.y E 7 z) (m.v V 8 z) (m.v Y 9 z) (m.v D 10 z) (by simpa [EC] using (m.sl [7,8,9,10] z).nd))⟩
 refine uc 8 k z λk=>?_;cases h;exact C5 k z (RV.tmp k z) ⟨([J]++(T++(Q++U))),z,m.ext,(λb L=>(m.sl [6,7,8,9] z).lo b (by simpa [EC] using L)),(obx.fin (x:=A) (m.y N 6 z) (m.v V 7 z) (m.v Y 8 z) (m.v Z 9 z) (by simpa [EC] using (m.sl [6,7,8,9] z).nd))⟩
theorem cW {fu E D A r} (h:PE fu D A=some r):cS 32 [I D,I A] E (.bool (r)):=by
 refine eg func32 z ntmps32 z λk m=>uc 5 k z λk=>cg (λa w=>K 38 [] a∧St [] E w []∧JM fu=some r) ?_ ?_
 · rintro a _ ⟨k,m,h⟩;refine uc 6 k z λk=>fS h k m z z
 refine uJ 13 h k z (λh k=>?_) λh k=>?_
 · refine uJ 2 h k z (λh k=>?_) λh k=>?_
   · refine uc 12 k z λk=>fS h k m z z
   refine uJ 6 h k z (λh k=>?_) λh k=>?_
   · refine uc 5 k z λk=>bT h k 18 z (λh k=>?_) λh k=>?_
     · refine ul 9 k z λk=>fS h k m z z
     refine ul 9 k z λk=>fS h k m z z
   refine uJ 6 h k z (λh k=>?_) λh k=>?_
   · refine oE h λ_ A h=>uc 3 k z λk=>cC k m call91 z (BA A) λ_ e a k m=>ul 6 k z λk=>fS h k m z z
   refine uJ 6 h k z (λh k=>?_) λh k=>?_
   · refine oE h λ_ A h=>uc 3 k z λk=>cC k m call91 z (BA A) λ_ e a k m=>ul 6 k z λk=>fS h k m z z
   refine uJ 6 h k z (λh k=>?_) λh k=>?_
   · refine uc 5 k z λk=>bT h k 34 z (λh k=>?_) λh k=>?_
     · refine ul 9 k z λk=>fS h k m z z
     refine ul 9 k z λk=>fS h k m z z
   exact uc 3 k z λk=>⟨k.p z,m.f z,h⟩
 refine uJ 6 h k z (λh k=>?_) λh k=>?_
 · refine uJ 2 h k z (λh k=>?_) λh k=>?_
   · refine uc 12 k z λk=>fS h k m z z
   refine uJ 6 h k z (λh k=>?_) λh k=>?_
   · refine uc 5 k z λk=>bT h k 18 z (λh k=>?_) λh k=>?_
     · refine ul 9 k z λk=>fS h k m z z
     refine ul 9 k z λk=>fS h k m z z
   refine uJ 6 h k z (λh k=>?_) λh k=>?_
   · refine oE h λ_ A h=>uc 3 k z λk=>cC k m call91 z (BA A) λ_ e a k m=>ul 6 k z λk=>fS h k m z z
   refine uJ 6 h k z (λh k=>?_) λh k=>?_
   · refine oE h λ_ A h=>uc 3 k z λk=>cC k m call91 z (BA A) λ_ e a k m=>ul 6 k z λk=>fS h k m z z
   refine uJ 6 h k z (λh k=>?_) λh k=>?_
   · refine uc 5 k z λk=>bT h k 34 z (λh k=>?_) λh k=>?_
     · refine ul 9 k z λk=>fS h k m z z
     refine ul 9 k z λk=>fS h k m z z
   exact uc 3 k z λk=>⟨k.p z,m.f z,h⟩
 refine uJ 5 h k z (λh k=>?_) λh k=>?_
 · refine uc 12 k z λk=>fS h k m z z
 refine uJ 6 h k z (λh k=>?_) λh k=>?_
 · refine uc 5 k z λk=>bT h k 18 z (λh k=>?_) λh k=>?_
   · refine ul 9 k z λk=>fS h k m z z
   refine ul 9 k z λk=>fS h k m z z
 refine uJ 6 h k z (λh k=>?_) λh k=>?_
 · refine oE h λ_ A h=>uc 3 k z λk=>cC k m call91 z (BA A) λ_ e a k m=>ul 6 k z λk=>fS h k m z z
 refine uJ 6 h k z (λh k=>?_) λh k=>?_
 · refine oE h λ_ A h=>uc 3 k z λk=>cC k m call91 z (BA A) λ_ e a k m=>ul 6 k z λk=>fS h k m z z
 refine uJ 6 h k z (λh k=>?_) λh k=>?_
 · refine uc 5 k z λk=>bT h k 34 z (λh k=>?_) λh k=>?_
   · refine ul 9 k z λk=>fS h k m z z
   refine ul 9 k z λk=>fS h k m z z
 exact uc 3 k z λk=>⟨k.p z,m.f z,h⟩
theorem PA {fu A E r} (h:H5 fu E=some r) (hT:Te Tryz.prog A):Calls Tryz.prog 11 #[.string (E)] A λe w=>∃ (E:List Value) (J:List Nat),e=.returned (.tuple #[.agg E.toArray,I r.2])∧Ext [] A w∧ow w J E r.1∧(∀ b∈J,A.heap.size≤b):=by
 refine eg (vs:=[_]) func11 z ntmps11 z λk m=>uc 2 k z λk=>AP m k zeroValue37 z z z z z λb2 w4 a k m e D=>oE h λx5 E h=>ul 6 k z λk=>sL k m call30 z (Xt E) λw9 Ch Bo N k m=>hJ 18 [lF (Enc.ow_rd N)] h k z (λh k=>?_) λh k=>?_
 · refine uc 2 k z λk=>sv k z (AN au k (cs:=#[I 0,I 0,I 0,I 0,I 0,I 0,.slice none 0 0,.slice none 0 0,I 0,.slice none 0 0]) (ps:=[]) z z AQ) λa k=>sT sizeOf37 m 1 D 0 k z z λ_ a k e m E=>ul 5 k z λk=>?_;cases h;exact B4 k z (RV.cA k z SY (E.at (m.a 1 z) 0 10 z z z) z) (RV.tmp k z) ⟨_,_,z,m.ext,⟨_,[],_,[],_,[],z,z,(A0 _),(A0 _),(A0 _),by simpa [EC] using (m.sl [] z).nd⟩,(A3 AD (A3 AD AD))⟩
 refine uc 4 k z λk=>sv k z (AN au k (cs:=#[I 0,I 0,I 0,I 0,I 0,I 0,.slice none 0 0,.slice none 0 0,I 0,.slice none 0 0]) (ps:=[]) z z AQ) λa k=>AP m k zeroValue37 z z z z z λBd _ a k m e E=>sT sizeOf37 m 0 E 0 k z z λ_ a k e m Cg=>oE h λBm E h=>ul 12 k z λk=>am (Enc.ow_rd N) E k vj z z z z z z λCa a k Bb=>gl 5 [lF Bb] k z λk=>lG (λn a w=>∃ V E J Y U Ac Ao Av M Ba T Ar L Be Z O Aw Q Bg Az Aq Ax,K 51 [(2,pt b2),(4,Ch),(5,I (AK ((x5.length:Int) - 1))),(6,pt Bd),(7,I Aq),(22,Ca),(23,I (Bm.length:Int)),(24,I Ax)] a∧St [] A w [([b2],w4),(M,Ba),(L,Be),(Q,Bg),([Bd],Az),(Bo,w9)]∧ow Ba M [Av] Ao∧ow Be L [Ar] T∧ow Bg Q [Aw] O∧bx Az Bd [I V,I E,I J,I Y,I U,I Ac,Av,Ar,I Z,Aw] 37∧HE fu x5 Bm n V E J Y U Ac Ao T Z O Aq Ax=some r) ?_ fu ?_
 · rintro _ a _ ⟨V,E,J,Y,U,Ac,Ao,Av,M,Ba,T,Ar,L,Be,Z,O,Aw,Q,Bg,Az,Aq,Ax,k,m,Ay,Bh,Bc,Bi,h⟩;refine uJ 6 h k z (λh k=>?_) λh k=>?_
   · refine oE h λ_ Bj h=>gc 16 [iF Bb Bj,eF (Enc.rd_agr Bb (m.a 5 z)) Bj 0] k z λk=>?_;have Cb:=Enc.ow_agr Ay (m.a 1 z);have Bq:=Enc.ow_agr Bh (m.a 2 z);have Br:=Enc.ow_agr Bc (m.a 3 z);have Cl:=Bi.agr (m.a 4 z) AD;have m:=(m.sl [4,1,2,3,0,5] z).joinq;have Ce:=obx.fin (x:=(⟨V,(⟨E,J,Y,U⟩:Pallet),Ac,Ao,T,Z,O⟩:Request)) Cl Cb Bq Br (m.ndF 0 z);refine oE h λ_ E h=>sC k call31 z (gi E Ce (m.te2 hT 0 z)) λ_ _ hR=>?_;obtain ⟨_,rfl,e,J,Bf⟩:=hR;refine ⟨_,z,λa k=>?_⟩;have m:=m.mut 0 z e _ (λb E=>⟨J b E,Bf.lt b E⟩) Bf.nd;obtain ⟨_,_,_,_,_,_,Ck,rfl,E,J,T,_⟩:=Bf;have m:=m.split4;refine oE h λ_ O h=>ul 8 k z λk=>cC k m call32 z (cW O) λ_ e a k m=>lJ 3 h k z (λh k=>?_) λh k=>?_
     · refine uc 2 k z λk=>sv k z (AN au k (cs:=#[I 0,I 0,I 0,I 0,I 0,I 0,.slice none 0 0,.slice none 0 0,I 0,.slice none 0 0]) (ps:=[]) z z AQ) λa k=>pN 1 k z λa k=>sT sizeOf37 m 4 D 0 k z z λ_ a k e m O=>ul 10 k z λk=>?_;cases h;exact B4 k z (RV.cA k z SY (O.at (m.a 4 z) 0 10 z z z) z) (RV.tmp k z) ⟨_,_,z,m.ext,⟨_,[],_,[],_,[],z,z,(A0 _),(A0 _),(A0 _),by simpa [EC] using (m.sl [] z).nd⟩,(A3 AD (A3 AD AD))⟩
     exact uc 13 k z λk=>⟨_,_,_,_,_,_,_,_,_,_,_,_,_,_,_,_,_,_,_,_,_,_,k.p z,m.sl [4,1,2,3,0,5] z,E,J,T,Ck,h⟩
   refine uc 11 k z λk=>bT h k 41 z (λh k=>?_) λh k=>?_
   · refine ul 11 k z λk=>sv k z (AN au k (cs:=#[I 0,I 0,I 0,I 0,I 0,I 0,.slice none 0 0,.slice none 0 0,I 0,.slice none 0 0]) (ps:=[]) z z AQ) λa k=>pN 1 k z λa k=>sT sizeOf37 m 0 D 0 k z z λ_ a k e m E=>ul 5 k z λk=>?_;cases h;exact B4 k z (RV.cA k z SY (E.at (m.a 0 z) 0 10 z z z) z) (RV.tmp k z) ⟨_,_,z,m.ext,⟨_,[],_,[],_,[],z,z,(A0 _),(A0 _),(A0 _),by simpa [EC] using (m.sl [] z).nd⟩,(A3 AD (A3 AD AD))⟩
   refine oE h λ_ E h=>hJ 8 [iF (Enc.ow_rd N) E,eF (m.q N 5 z) E 0] h k z (λh k=>?_) λh k=>?_
   · refine uc 2 k z λk=>sv k z (AN au k (cs:=#[I 0,I 0,I 0,I 0,I 0,I 0,.slice none 0 0,.slice none 0 0,I 0,.slice none 0 0]) (ps:=[]) z z AQ) λa k=>pN 1 k z λa k=>sT sizeOf37 m 0 D 0 k z z λ_ a k e m E=>ul 5 k z λk=>?_;cases h;exact B4 k z (RV.cA k z SY (E.at (m.a 0 z) 0 10 z z z) z) (RV.tmp k z) ⟨_,_,z,m.ext,⟨_,[],_,[],_,[],z,z,(A0 _),(A0 _),(A0 _),by simpa [EC] using (m.sl [] z).nd⟩,(A3 AD (A3 AD AD))⟩
   refine gc 5 [bA m 4 Bi z] k z λk=>sT sizeOf37 m 0 D 0 k z (AH z (AH z (AH z (AH z (AH z (AH z (AH (A5 (Enc.ow_rd Ay)) (AH (A5 (Enc.ow_rd Bh)) (AH z (AH (A5 (Enc.ow_rd Bc)) DS)))))))))) λ_ a k e m D=>ul 4 k z λk=>?_;cases h;exact B4 k z (RV.cA k z SY (D.at (m.a 0 z) 0 10 z z z) z) (RV.tmp k z) ⟨_,_,z,m.ext,⟨_,M,_,L,_,Q,z,z,(m.v Ay 1 z),(m.v Bh 2 z),(m.v Bc 3 z),by simpa [EC] using (m.sl [1,2,3] z).nd⟩,(A3 (m.fresh 1 z) (A3 (m.fresh 2 z) (m.fresh 3 z)))⟩
 exact ⟨_,_,_,_,_,_,_,_,_,_,_,_,_,_,_,_,_,_,_,_,_,_,k.p z,(((m.addNil (u:=A)).addNil (u:=A)).addNil (u:=A)).sel [5,0,1,2,3,4] z A1,(A0 _),(A0 _),(A0 _),Cg,h⟩
theorem bq (fu) {E} (A D) {L} (J:bx E L [I D] 3) {r} (h:TV fu A D=some r):cS 177 [.agg (Flat.e (A)).toArray,pt L] E (.bool (r)):=by
 refine eg func177 z ntmps177 z λk m=>uc 2 k z λk=>AW m k z z z z z z λ_ _ a k m e A=>gl 13 [bF m 0 A z,pF (r:=[]) (J.at (m.a00 J.lt1) 0 1 z z z)] k z λk=>fS h k m z z
theorem I2 {fu D A J E O L r} (h:CE fu A J=some r) (M:rd D O [E] A) (Q:WB Tryz.prog D L J):cS 141 [E,L] D (I r):=by
 refine eg func141 z ntmps141 z λk m=>?_;obtain ⟨V,N,rfl,O,U⟩:=Q;refine gc 14 [lF M] k z λk=>lG (λn a w=>∃ L,K 19 [(0,E),(1,(.func (.func V) #[] N.toArray)),(7,I (A.length:Int)),(8,I L)] a∧St [] D w []∧BM fu A J n L=some r) ?_ fu ?_
 · rintro _ a _ ⟨L,k,m,h⟩;refine uJ 6 h k z (λh k=>?_) λh k=>?_
   · refine o2 h λ_ A _ D h=>gc 17 [iF M A,eA (m.r M) A] k z λk=>UA k O z z z z z z (U _ _ _ _ m.ext z D) λ_ _ T=>?_;obtain ⟨rfl,e⟩:=T;refine ⟨_,z,λa k=>?_⟩;have m:=m.step e;refine lJ 2 h k z (λh k=>?_) λh k=>?_
     · refine uc 12 k z λk=>fS h k m z z
     exact uc 8 k z λk=>⟨_,k.p z,m.f z,h⟩
   refine uc 11 k z λk=>fS h k m z z
 exact ⟨_,k.p z,m.f z,h⟩
theorem Sc {fu L E N J O r} (h:JC fu E N=some r) (U:rd L O J E):cS 107 [.agg J.toArray,I N] L (.tuple #[.agg (Flat.e r.1).toArray,.bool (r.2)]):=by
 refine eg func107 z ntmps107 z λk m=>?_;obtain ⟨_,_,_,_,_,_,rfl,rfl,_,A,_⟩:=U;refine uc 2 k z λk=>AW m k z z z z z z λ_ _ a k m e M=>AW m k z z z z z z λE _ a k m e V=>AP m k zeroValue102 z z z z z λ_ _ a k m e D=>oE h λ_ J h=>gl 8 [bF m 2 M z] k z λk=>cC k m call141 z (I2 J (m.r A) ⟨177,[pt E],z,call177,λw _ _ r e Q T=>by subst Q; have m:=m.step e; exact bq fu _ _ (V.agr (m.a 1 rfl) AD) T⟩) λ_ e a k m=>pN 1 k rfl λa k=>ul 5 k z λk=>pN 2 k rfl λa k=>ul 2 k z λk=>cI h k rfl (λE h=>?_) λE h=>?_
 · refine uc 2 k z λk=>sv k z (AN Xc k (cs:=#[I 0,I 0,I 0,I 0,I 0,I 0,I 0]) (ps:=[]) z z AQ) λa k=>sT sizeOf102 m 0 D 0 k z z λ_ a k e m E=>ul 5 k z λk=>?_;cases h;exact B4 k z (RV.cA k z YW (E.at (m.a 0 z) 0 7 z z z) z) (RV.tmp k z) ⟨z,m.ext⟩
 refine oE h λ_ E h=>gc 9 [bF m 2 M z,iF A E,eA (m.r A) E] k z λk=>sT sizeOf102 m 0 D 0 k z z λ_ a k e m A=>ul 4 k z λk=>?_;cases h;exact B4 k z (RV.cA k z YW (A.at (m.a 0 z) 0 7 z z z) z) (RV.tmp k z) ⟨z,m.ext⟩
theorem WP {fu D A E J r} (h:KH fu A=some r) (L:rd D J E A):cS 62 [.agg E.toArray] D (.tuple #[.agg (Flat.e r.1).toArray,.bool (r.2)]):=by
 refine eg func62 z ntmps62 z λk m=>?_;obtain ⟨_,_,_,_,_,_,rfl,rfl,M,E,N⟩:=L;refine uc 2 k z λk=>AW m k z z z z z z λ_ _ a k m e A=>AP m k zeroValue102 z z z z z λ_ _ a k m e J=>oE h λ_ D h=>gl 8 [bA m 1 A z,bF m 1 A z] k z λk=>cC k m call107 z (Sc D (AE (m.r M) (m.r E) (m.r N))) λ_ e a k m=>pN 2 k z λa k=>sT sizeOf102 m 0 J 0 k z z λ_ a k e m A=>ul 4 k z λk=>?_;cases h;exact B4 k z (RV.cA k z YW (A.at (m.a 0 z) 0 7 z z z) z) (RV.tmp k z) ⟨z,m.ext⟩
theorem FC {fu A n1 r} (h:DF fu n1=some r):cS 199 [I n1] A (.bool (r)):=by
 refine eg func199 z ntmps199 z λk m=>oE h λ_ A h=>uc 8 k z λk=>cC k m call91 z (BA A) λ_ e a k m=>ul 4 k z λk=>fS h k m z z
theorem R6 {fu D A r} (h:F5 fu A=some r):cS 130 [.agg (Flat.e (A)).toArray] D (.bool (r)):=by
 refine eg func130 z ntmps130 z λk m=>uc 2 k z λk=>AW m k z z z z z z λ_ _ a k m e A=>oE h λ_ D h=>gl 7 [bF m 0 A z] k z λk=>cC k m call199 z (FC D) λ_ e a k m=>pN 1 k z λa k=>bT h k 6 z (λh k=>?_) λh k=>?_
 · refine oE h λ_ D h=>gl 2 [bF m 0 A z] k z λk=>cC k m call199 z (FC D) λ_ e a k m=>pN 2 k z λa k=>bT h k 11 z (λh k=>?_) λh k=>?_
   · refine oE h λ_ D h=>gl 2 [bF m 0 A z] k z λk=>cC k m call199 z (FC D) λ_ e a k m=>pN 2 k z λa k=>bT h k 16 z (λh k=>?_) λh k=>?_
     · refine oE h λ_ D h=>gl 2 [bF m 0 A z] k z λk=>cC k m call91 z (BA D) λ_ e a k m=>ul 5 k z λk=>fS h k m z z
     refine ul 8 k z λk=>fS h k m z z
   refine ul 13 k z λk=>fS h k m z z
 refine ul 18 k z λk=>fS h k m z z
theorem Oa {fu D A J E O L r} (h:DO fu A J=some r) (M:rd D O [E] A) (Q:WB Tryz.prog D L J):cS 200 [E,L] D (I r):=by
 refine eg func200 z ntmps200 z λk m=>?_;obtain ⟨V,N,rfl,O,U⟩:=Q;refine gc 14 [lF M] k z λk=>lG (λn a w=>∃ L,K 19 [(0,E),(1,(.func (.func V) #[] N.toArray)),(7,I (A.length:Int)),(8,I L)] a∧St [] D w []∧BO fu A J n L=some r) ?_ fu ?_
 · rintro _ a _ ⟨L,k,m,h⟩;refine uJ 6 h k z (λh k=>?_) λh k=>?_
   · refine o2 h λ_ A _ D h=>gc 17 [iF M A,eA (m.r M) A] k z λk=>UA k O z z z z z z (U _ _ _ _ m.ext z D) λ_ _ T=>?_;obtain ⟨rfl,e⟩:=T;refine ⟨_,z,λa k=>?_⟩;have m:=m.step e;refine lJ 2 h k z (λh k=>?_) λh k=>?_
     · refine uc 12 k z λk=>fS h k m z z
     exact uc 8 k z λk=>⟨_,k.p z,m.f z,h⟩
   refine uc 11 k z λk=>fS h k m z z
 exact ⟨_,k.p z,m.f z,h⟩
theorem HN {fu A E L D M J r} (h:BL fu E L=some r) (N:rd A M [D] E) (O:WB Tryz.prog A J L):cS 131 [D,J] A (.bool (r)):=by
 refine eg func131 z ntmps131 z λk m=>?_;obtain ⟨_,_,rfl,A,E⟩:=O;refine oE h λ_ D h=>uc 9 k z λk=>cC k m call200 z (Oa D (m.r N) ⟨_,_,z,A,λw A D r e=>E w A D r (m.ext.trans e AD)⟩) λ_ e a k m=>ul 5 k z λk=>fS h k m z z
theorem bB (fu) {D} (A) {r} (h:NK fu A=some r):cS 132 [.agg (Flat.e (A)).toArray] D (.bool (r)):=by
 refine eg func132 z ntmps132 z λk m=>uc 2 k z λk=>AW m k z z z z z z λ_ _ a k m e A=>oE h λ_ D h=>gl 7 [bF m 0 A z] k z λk=>cC k m call91 z (BA D) λ_ e a k m=>pN 2 k z λa k=>bT h k 7 z (λh k=>?_) λh k=>?_
 · refine ul 9 k z λk=>fS h k m z z
 refine oE h λ_ D h=>gl 2 [bF m 0 A z] k z λk=>cC k m call91 z (BA D) λ_ e a k m=>ul 6 k z λk=>fS h k m z z
theorem EB {fu A E L D M J r} (h:BH fu E L=some r) (N:rd A M [D] E) (O:WB Tryz.prog A J L):cS 69 [D,J] A (.bool (r)):=by
 refine eg func69 z ntmps69 z λk m=>?_;obtain ⟨_,_,rfl,A,E⟩:=O;refine oE h λ_ D h=>uc 9 k z λk=>cC k m call141 z (I2 D (m.r N) ⟨_,_,z,A,λw A D r e=>E w A D r (m.ext.trans e AD)⟩) λ_ e a k m=>ul 5 k z λk=>fS h k m z z
theorem iH {fu D A r} (h:Ws fu A=some r):cS 134 [.agg (Flat.e (A)).toArray] D (.bool (r)):=by
 refine eg func134 z ntmps134 z λk m=>uc 2 k z λk=>AW m k z z z z z z λ_ _ a k m e A=>oE h λ_ D h=>gl 7 [bF m 0 A z] k z λk=>cC k m call91 z (BA D) λ_ e a k m=>pN 1 k z λa k=>bT h k 6 z (λh k=>?_) λh k=>?_
 · refine oE h λ_ D h=>gl 2 [bF m 0 A z] k z λk=>cC k m call199 z (FC D) λ_ e a k m=>pN 2 k z λa k=>bT h k 11 z (λh k=>?_) λh k=>?_
   · refine oE h λ_ D h=>gl 2 [bF m 0 A z] k z λk=>cC k m call199 z (FC D) λ_ e a k m=>pN 2 k z λa k=>bT h k 16 z (λh k=>?_) λh k=>?_
     · refine oE h λ_ D h=>gl 2 [bF m 0 A z] k z λk=>cC k m call199 z (FC D) λ_ e a k m=>pN 2 k z λa k=>bT h k 21 z (λh k=>?_) λh k=>?_
       · refine oE h λ_ D h=>gl 2 [bF m 0 A z] k z λk=>cC k m call91 z (BA D) λ_ e a k m=>pN 2 k z λa k=>bT h k 26 z (λh k=>?_) λh k=>?_
         · refine oE h λ_ D h=>gl 2 [bF m 0 A z] k z λk=>cC k m call91 z (BA D) λ_ e a k m=>pN 2 k z λa k=>bT h k 31 z (λh k=>?_) λh k=>?_
           · refine oE h λ_ D h=>gl 2 [bF m 0 A z] k z λk=>cC k m call91 z (BA D) λ_ e a k m=>ul 5 k z λk=>fS h k m z z
           refine ul 8 k z λk=>fS h k m z z
         refine ul 13 k z λk=>fS h k m z z
       refine ul 18 k z λk=>fS h k m z z
     refine ul 23 k z λk=>fS h k m z z
   refine ul 28 k z λk=>fS h k m z z
 refine ul 33 k z λk=>fS h k m z z
theorem bZ (fu) {D} (A) {r} (h:NU fu A=some r):cS 133 [.agg (Flat.e (A)).toArray] D (.bool (r)):=by
 refine eg func133 z ntmps133 z λk m=>uc 2 k z λk=>AW m k z z z z z z λ_ _ a k m e A=>oE h λ_ D h=>gl 6 [bA m 0 A z] k z λk=>cC k m call134 z (iH D) λ_ e a k m=>ul 5 k z λk=>fS h k m z z
theorem jm {fu D A r} (h:Wh fu A=some r):cS 135 [.agg (Flat.e (A)).toArray] D (.bool (r)):=by
 refine eg func135 z ntmps135 z λk m=>uc 2 k z λk=>AW m k z z z z z z λ_ _ a k m e A=>oE h λ_ D h=>gl 7 [bF m 0 A z] k z λk=>cC k m call91 z (BA D) λ_ e a k m=>pN 1 k z λa k=>bT h k 6 z (λh k=>?_) λh k=>?_
 · refine oE h λ_ D h=>gl 2 [bF m 0 A z] k z λk=>cC k m call199 z (FC D) λ_ e a k m=>pN 2 k z λa k=>bT h k 11 z (λh k=>?_) λh k=>?_
   · refine oE h λ_ D h=>gl 2 [bF m 0 A z] k z λk=>cC k m call199 z (FC D) λ_ e a k m=>pN 2 k z λa k=>bT h k 16 z (λh k=>?_) λh k=>?_
     · refine oE h λ_ D h=>gl 2 [bF m 0 A z] k z λk=>cC k m call199 z (FC D) λ_ e a k m=>pN 2 k z λa k=>bT h k 21 z (λh k=>?_) λh k=>?_
       · refine oE h λ_ D h=>gl 2 [bF m 0 A z] k z λk=>cC k m call91 z (BA D) λ_ e a k m=>pN 2 k z λa k=>bT h k 26 z (λh k=>?_) λh k=>?_
         · refine oE h λ_ D h=>gl 2 [bF m 0 A z] k z λk=>cC k m call91 z (BA D) λ_ e a k m=>pN 2 k z λa k=>bT h k 31 z (λh k=>?_) λh k=>?_
           · refine oE h λ_ D h=>gl 2 [bF m 0 A z] k z λk=>cC k m call91 z (BA D) λ_ e a k m=>ul 5 k z λk=>fS h k m z z
           refine ul 8 k z λk=>fS h k m z z
         refine ul 13 k z λk=>fS h k m z z
       refine ul 18 k z λk=>fS h k m z z
     refine ul 23 k z λk=>fS h k m z z
   refine ul 28 k z λk=>fS h k m z z
 refine ul 33 k z λk=>fS h k m z z
theorem ei {fu E D O V r} (h:SF fu D=some r) (U:rd E V O D):cS 63 [.agg O.toArray] E (.bool (r)):=by
 refine eg func63 z ntmps63 z λk m=>?_;obtain ⟨_,_,_,_,v9,_,rfl,rfl,T,Q,J⟩:=U;refine uc 2 k z λk=>AW m k z z z z z z λL N a k m e A=>ul 3 k z λk=>cg (λa w=>K 70 [(1,pt L)] a∧St [] E w [([L],N)]∧TC fu D=some r) ?_ ?_
 · rintro a _ ⟨k,m,h⟩;refine oE h λ_ O h=>gc 5 [bF m 0 A z] k z λk=>cC k m call131 z (HN O (m.r T) ⟨132,[],z,call132,λw _ _ r e Y M=>by subst Y; have m:=m.step e; exact bB fu _  M⟩) λ_ e a k m=>ul 2 k z λk=>cI h k rfl (λO h=>?_) λO h=>?_
   · refine uc 7 k z λk=>fS h k m z z
   refine uc 2 k z λk=>cg (λa w=>K 70 [(1,pt L)] a∧St [] E w [([L],N)]∧S3 fu D=some r) ?_ ?_
   · rintro a _ ⟨k,m,h⟩;refine gc 15 [bF m 0 A z,lF J] k z λk=>lG (λn a w=>∃ N L,K 70 [(3,I N),(54,v9),(55,I (D.fU.length:Int)),(56,I L)] a∧St [] E w []∧GB fu D n N L=some r) ?_ fu ?_
     · rintro _ a _ ⟨N,L,k,m,h⟩;refine uJ 6 h k z (λh k=>?_) λh k=>?_
       · refine oE h λ_ D h=>gc 8 [iF J D,eA (m.r J) D] k z λk=>AP m k zeroValue104 z z z z z λ_ _ a k m e D=>sT sizeOf104 m 0 D 0 k z z λ_ a k e m D=>oE h λ_ E h=>gl 6 [bA m 0 D z] k z λk=>cC k m call135 z (jm E) λ_ e a k m=>lJ 3 h k z (λh k=>?_) λh k=>?_
         · refine uc 12 k z λk=>fS h k m z z
         exact gc 16 [bF m 0 D z] k z λk=>⟨_,_,k.p z,m.f z,h⟩
       refine uc 13 k z λk=>fS h k m z z
     exact ⟨_,_,k.p z,m.f z,h⟩
   refine oE h λ_ D h=>gc 5 [bF m 0 A z,lF Q] k z λk=>cC k m call91 z (BA D) λ_ e a k m=>pN 2 k z λa k=>bT h k 36 z (λh k=>?_) λh k=>?_
   · refine ul 26 k z λk=>fS h k m z z
   refine oE h λ_ D h=>gl 2 [bF m 0 A z] k z λk=>cC k m call69 z (EB D (m.r Q) ⟨133,[],z,call133,λw _ _ r e Z M=>by subst Z; have m:=m.step e; exact bZ fu _  M⟩) λ_ e a k m=>pN 2 k rfl λa k=>bT h k 41 z (λh k=>?_) λh k=>?_
   · refine ul 21 k z λk=>fS h k m z z
   refine oE h λ_ D h=>gl 2 [bF m 0 A z] k z λk=>cC k m call91 z (BA D) λ_ e a k m=>pN 3 k z λa k=>bT h k 47 z (λh k=>?_) λh k=>?_
   · refine ul 15 k z λk=>fS h k m z z
   refine hJ 7 [bF m 0 A z,lF J] h k z (λh k=>?_) λh k=>?_
   · refine uc 7 k z λk=>fS h k m z z
   exact uc 2 k z λk=>⟨k.p z,m.f z,h⟩
 refine oE h λ_ D h=>gc 4 [bF m 0 A z] k z λk=>cC k m call91 z (BA D) λ_ e a k m=>pN 2 k z λa k=>bT h k 10 z (λh k=>?_) λh k=>?_
 · refine ul 27 k z λk=>fS h k m z z
 refine oE h λ_ D h=>gl 2 [bA m 0 A z] k z λk=>cC k m call130 z (R6 D) λ_ e a k m=>pN 3 k z λa k=>bT h k 16 z (λh k=>?_) λh k=>?_
 · refine ul 21 k z λk=>fS h k m z z
 refine oE h λ_ D h=>gl 2 [bF m 0 A z] k z λk=>cC k m call91 z (BA D) λ_ e a k m=>pN 3 k z λa k=>bT h k 22 z (λh k=>?_) λh k=>?_
 · refine ul 15 k z λk=>fS h k m z z
 refine hJ 7 [bF m 0 A z,lF T] h k z (λh k=>?_) λh k=>?_
 · refine uc 7 k z λk=>fS h k m z z
 exact uc 2 k z λk=>⟨k.p z,m.f z,h⟩
theorem cz (fu) {D} (L A) {J} (E:bx D J [I A.fe,I A.fW,I A.fH,I A.fD,I A.ff,I A.fQ,I A.fd] 102) {r} (h:VZ fu L A=some r):cS 136 [.agg (Flat.e (L)).toArray,pt J] D (.bool (r)):=by
 refine eg func136 z ntmps136 z λk m=>uc 2 k z λk=>AW m k z z z z z z λ_ _ a k m e A=>gl 14 [bF m 0 A z,pF (r:=[]) (E.at (m.a00 E.lt1) 0 1 z z z)] k z λk=>fS h k m z z
theorem cF (fu) {D} (L A) {J} (E:bx D J [I A.fe,I A.fW,I A.fH,I A.fD,I A.fQ,I A.fO,I A.f9] 104) {r} (h:V1 fu L A=some r):cS 137 [.agg (Flat.e (L)).toArray,pt J] D (.bool (r)):=by
 refine eg func137 z ntmps137 z λk m=>uc 2 k z λk=>AW m k z z z z z z λ_ _ a k m e A=>gl 14 [bF m 0 A z,pF (r:=[]) (E.at (m.a00 E.lt1) 0 1 z z z)] k z λk=>fS h k m z z
theorem OQ {fu D A J E O L r} (h:DJ fu A J=some r) (M:rd D O [E] A) (Q:WB Tryz.prog D L J):cS 140 [E,L] D (I r):=by
 refine eg func140 z ntmps140 z λk m=>?_;obtain ⟨V,N,rfl,O,U⟩:=Q;refine gc 14 [lF M] k z λk=>lG (λn a w=>∃ L,K 19 [(0,E),(1,(.func (.func V) #[] N.toArray)),(7,I (A.length:Int)),(8,I L)] a∧St [] D w []∧BN fu A J n L=some r) ?_ fu ?_
 · rintro _ a _ ⟨L,k,m,h⟩;refine uJ 6 h k z (λh k=>?_) λh k=>?_
   · refine o2 h λ_ A _ D h=>gc 17 [iF M A,eA (m.r M) A] k z λk=>UA k O z z z z z z (U _ _ _ _ m.ext z D) λ_ _ T=>?_;obtain ⟨rfl,e⟩:=T;refine ⟨_,z,λa k=>?_⟩;have m:=m.step e;refine lJ 2 h k z (λh k=>?_) λh k=>?_
     · refine uc 12 k z λk=>fS h k m z z
     exact uc 8 k z λk=>⟨_,k.p z,m.f z,h⟩
   refine uc 11 k z λk=>fS h k m z z
 exact ⟨_,k.p z,m.f z,h⟩
theorem C2 {fu A E L D M J r} (h:BG fu E L=some r) (N:rd A M [D] E) (O:WB Tryz.prog A J L):cS 66 [D,J] A (.bool (r)):=by
 refine eg func66 z ntmps66 z λk m=>?_;obtain ⟨_,_,rfl,A,E⟩:=O;refine oE h λ_ D h=>uc 9 k z λk=>cC k m call140 z (OQ D (m.r N) ⟨_,_,z,A,λw A D r e=>E w A D r (m.ext.trans e AD)⟩) λ_ e a k m=>ul 5 k z λk=>fS h k m z z
theorem cH (fu) {D} (M A) {J U L T O Q N} (E:bx D N (cR A J L O) 37) (V:rd D U [J] A.fT) (J:rd D T [L] A.fG) (J:rd D Q [O] A.fU) {r} (h:PM fu M A=some r):cS 138 [.agg (Flat.e (M)).toArray,pt N] D (.bool (r)):=by
 refine eg func138 z ntmps138 z λk m=>uc 2 k z λk=>AW m k z z z z z z λ_ _ a k m e A=>gl 11 [bF m 0 A z,pF (r:=[]) (E.at (m.a00 E.lt1) 5 1 z z z)] k z λk=>bT h k 9 z (λh k=>?_) λh k=>?_
 · refine ul 10 k z λk=>fS h k m z z
 refine gl 10 [bF m 0 A z,pF (r:=[]) (E.at (m.a00 E.lt1) 5 1 z z z)] k z λk=>fS h k m z z
theorem iy {fu M A N F3 r} (h:Ur fu A=some r) (Bb:rd M F3 N A):cS 64 [.agg N.toArray] M (.bool (r)):=by
 refine eg func64 z ntmps64 z λk m=>?_;obtain ⟨_,_,v7,_,U,_,rfl,rfl,Q,L,J⟩:=Bb;refine uc 2 k z λk=>AW m k z z z z z z λE T a k m e D=>gl 13 [bF m 0 D z,lF L] k z λk=>lG (λn a w=>∃ N,K 59 [(1,pt E),(10,v7),(11,I (A.fG.length:Int)),(12,I N)] a∧St [] M w [([E],T)]∧GR fu A n N=some r) ?_ fu ?_
 · rintro _ a _ ⟨N,k,m,h⟩;refine uJ 6 h k z (λh k=>?_) λh k=>?_
   · refine oE h λ_ N h=>gc 9 [iF L N,eA (m.r L) N] k z λk=>AP m k zeroValue102 z z z z z λAx _ a k m e N=>pN 1 k z λa k=>sT sizeOf102 m 0 N 0 k z z λ_ a k e m Bl=>oE h λ_ N h=>gl 7 [bF m 1 D z] k z λk=>am L N k rp z z z z z z λ_ a k Ap=>pN 1 k z λa k=>oE h λ_ N h=>cC k m call69 z (EB N (m.r Ap) ⟨136,[pt Ax],z,call136,λw _ _ r e Z O=>by subst Z; have m:=m.step e; exact cz fu _ _ (Bl.agr (m.a 0 rfl) AD) O⟩) λ_ e a k m=>ul 2 k z λk=>cI h k rfl (λN h=>?_) λN h=>?_
     · refine uc 11 k z λk=>fS h k m z z
     exact uc 8 k z λk=>⟨_,k.p z,m.sl [1] z,h⟩
   refine gc 15 [bF m 0 D z,lF J] k z λk=>lG (λn a w=>∃ N,K 59 [(1,pt E),(25,U),(26,I (A.fU.length:Int)),(27,I N)] a∧St [] M w [([E],T)]∧EO fu A n N=some r) ?_ fu ?_
   · rintro Z a _ ⟨N,k,m,h⟩;refine uJ 6 h k z (λh k=>?_) λh k=>?_
     · refine uc 2 k z λk=>cg (λa w=>K 59 [(1,pt E),(25,U),(26,I (A.fU.length:Int)),(27,I N)] a∧St [] M w [([E],T)]∧Up fu (EO fu A Z) N=some r) ?_ ?_
       · rintro a _ ⟨k,m,h⟩;exact uc 5 k z λk=>⟨_,k.p z,m.f z,h⟩
       refine oE h λ_ A h=>gc 6 [iF J A,eA (m.r J) A] k z λk=>AP m k zeroValue104 z z z z z λN _ a k m e A=>pN 1 k z λa k=>sT sizeOf104 m 0 A 0 k z z λ_ a k e m V=>gl 10 [bF m 0 V z,bF m 1 D z] k z λk=>bT h k 37 z (λh k=>?_) λh k=>?_
       · refine ul 21 k z λk=>fS h k m z z
       refine oE h λ_ A h=>gl 3 [bF m 1 D z] k z λk=>am J A k ua z z z z z z λ_ a k M=>pN 1 k z λa k=>oE h λ_ A h=>cC k m call66 z (C2 A (m.r M) ⟨137,[pt N],z,call137,λw _ _ r e Au O=>by subst Au; have m:=m.step e; exact cF fu _ _ (V.agr (m.a 0 rfl) AD) O⟩) λ_ e a k m=>pN 1 k rfl λa k=>ul 2 k z λk=>cI h k rfl (λA h=>?_) λA h=>?_
       · refine uc 11 k z λk=>fS h k m z z
       exact uc 3 k z λk=>⟨k.p z,m.sl [1] z,h⟩
     refine oE h λ_ A h=>gc 8 [bA m 0 D z] k z λk=>cC k m call62 z (WP A (AE (m.r Q) (m.r L) (m.r J))) λ_ e a k m=>pN 3 k z λa k=>AP m k zeroValue102 z z z z z λ_ _ a k m e A=>sT sizeOf102 m 0 A 0 k z z λ_ a k e m _=>ul 7 k z λk=>bT h k 52 z (λh k=>?_) λh k=>?_
     · refine oE h λ_ A h=>gl 3 [bF m 1 D z] k z λk=>cC k m call131 z (HN A (m.r Q) ⟨138,[pt E],z,call138,λw _ _ r e Y O=>by subst Y; have m:=m.step e; exact cH fu _ _ (D.agr (m.a 1 rfl) AD) (m.r Q) (m.r L) (m.r J) O⟩) λ_ e a k m=>pN 3 k rfl λa k=>ul 3 k z λk=>fS h k m rfl rfl
     refine ul 10 k z λk=>fS h k m z z
   exact ⟨_,k.p z,m.f z,h⟩
 exact ⟨_,k.p z,m.f z,h⟩
theorem SX {fu L A D E J r} (h:GA fu A D=some r) (M:rd L J [E] A):cS 247 [E,.agg (Flat.e (D)).toArray] L (I r):=by
 refine eg func247 z ntmps247 z λk m=>uc 2 k z λk=>AW m k z z z z z z λN Q a k m e O=>gl 12 [lF M] k z λk=>lG (λn a w=>∃ J,K 19 [(0,E),(3,pt N),(7,I (A.length:Int)),(8,I J)] a∧St [] L w [([N],Q)]∧BZ fu A D n J=some r) ?_ fu ?_
 · rintro _ a _ ⟨J,k,m,h⟩;refine uJ 6 h k z (λh k=>?_) λh k=>?_
   · refine uc 11 k z λk=>dI [] m z λA m s=>oE h λJ E h=>dr [1,2,0,3,4] 5 [bA A 0 O z,iF M E,eA (A.r M) E] k z s λk=>dT k 5 z z s (λw s=>zl xm (x:=D) (y:=J) k z z z z z) λa k=>dD ((AF ?_));refine cJ h k z (λh=>?_) λh=>?_
     · refine uc 12 k z λk=>fS h k m z z
     exact uc 8 k z λk=>⟨_,k.p z,m.f z,h⟩
   refine uc 11 k z λk=>fS h k m z z
 exact ⟨_,k.p z,m.f z,h⟩
theorem PG (fu) {J} (E A) {D L} (M:rd J L [D] E) {r} (h:FG fu E A=some r):cS 201 [D,.agg (Flat.e (A)).toArray] J (.bool (r)):=by
 refine eg func201 z ntmps201 z λk m=>uc 2 k z λk=>AW m k z z z z z z λ_ _ a k m e A=>oE h λ_ D h=>gl 7 [bA m 0 A z] k z λk=>cC k m call247 z (SX D (m.r M)) λ_ e a k m=>ul 5 k z λk=>fS h k m z z
theorem RH {fu J L D A E M r} (h:JY fu L D A=some r) (N:rd J M [E] L):cS 139 [E,I D,I A] J (.bool (r)):=by
 refine eg func139 z ntmps139 z λk m=>uc 10 k z λk=>sv k z (AN gk k (cs:=#[I D,I A]) (ps:=[(0,.tmp 8),(1,.tmp 9)]) z z AQ) λa k=>oE h λ_ E h=>cC k m call201 z (PG fu _ (⟨D,A⟩:Pair) (m.r N) E) λ_ e a k m=>ul 4 k z λk=>fS h k m z z
theorem g6 {fu L E A J D r} (h:T6 fu E A=some r) (N:rd L D [J] E):cS 65 [J,I A] L (.bool (r)):=by
 refine eg func65 z ntmps65 z λk m=>oE h λ_ D h=>uc 9 k z λk=>cC k m call91 z (BA D) λ_ e a k m=>lJ 3 h k z (λh k=>?_) λh k=>?_
 · refine uc 7 k z λk=>fS h k m z z
 refine uc 10 k z λk=>lG (λn a w=>∃ D,K 34 [(0,J),(1,I A),(10,I A),(11,I D)] a∧St [] L w []∧GX fu E A n D=some r) ?_ fu ?_
 · rintro O a _ ⟨D,k,m,h⟩;refine uJ 6 h k z (λh k=>?_) λh k=>?_
   · refine oE h λ_ M h=>uc 16 k z λk=>cC k m call139 z (RH M (m.r N)) λ_ e a k m=>lJ 3 h k z (λh k=>?_) λh k=>?_
     · refine uc 12 k z λk=>fS h k m z z
     refine uc 9 k z λk=>lG (λn a w=>∃ M,K 34 [(0,J),(1,I A),(5,I D),(10,I A),(11,I D),(19,I A),(20,I M)] a∧St [] L w []∧Hw fu (GX fu E A O) E A D n M=some r) ?_ fu ?_
     · rintro _ a _ ⟨M,k,m,h⟩;refine uJ 6 h k z (λh k=>?_) λh k=>?_
       · refine oE h λ_ A h=>uc 15 k z λk=>cC k m call139 z (RH A (m.r N)) λ_ e a k m=>pN 3 k z λa k=>oE h λ_ A h=>cC k m call139 z (RH A (m.r N)) λ_ e a k m=>sv k z (sJ k underlying4 z z z) λa k=>lJ 2 h k z (λh k=>?_) λh k=>?_
         · refine uc 15 k z λk=>fS h k m z z
         exact uc 8 k z λk=>⟨_,k.p z,m.f z,h⟩
       exact uc 11 k z λk=>⟨_,k.p z,m.f z,h⟩
     exact ⟨_,k.p z,m.f z,h⟩
   refine uc 11 k z λk=>fS h k m z z
 exact ⟨_,k.p z,m.f z,h⟩
theorem HU {fu:Nat} {A:World} {J:List Int} {D:Value} {E:List Nat} {r:List Int} (h:CL fu J=some r) (L:ow A E [D] J):
    Calls Tryz.prog 74 #[D] A λe w=>∃ H:List Nat,e=.returned (.tuple #[])∧Ext E A w∧(∀ b∈H,b∈E∨A.heap.size≤b)∧ow w H [D] r :=
  (qi (λA off cap D w=>Tryz.slices_Sort_int A off cap D w) (λp cap w=>Tryz.slices_Sort_int_none p cap w) J L h).mono λe w ⟨D,E,A⟩=>⟨_,D,E,λb D=>.inl D,A⟩
theorem di {fu w0 D E r} (h:WA fu D E=some r):cS 68 [.agg (Flat.e (D)).toArray,.agg (Flat.e (E)).toArray] w0 (.bool (r)):=by
 refine eg func68 z ntmps68 z λk m=>uc 2 k z λk=>AW m k z z z z z z λb3 w5 a k m e M=>AW m k z z z z z z λb6 w9 a k m e N=>ul 3 k z λk=>cg (λa w=>∃ T A J U V Y O Q,K 57 [(2,pt b3),(3,pt b6),(5,A),(6,Y)] a∧St [] w0 w [([b3],w5),([b6],w9),(J,U),(O,Q)]∧ow U J [A] T∧ow Q O [Y] V∧XK fu D E T V=some r) ?_ ?_
 · rintro a _ ⟨T,A,J,U,V,Y,O,Q,k,m,J,Bn,h⟩;refine oE h λ_ A h=>uc 3 k z λk=>sC k call74 z (HU A (m.v J 2 z)) λ_ _ Z=>?_;obtain ⟨_,rfl,e,A,L⟩:=Z;refine ⟨_,z,λa k=>?_⟩;have m:=m.mt 2 z e A L;refine oE h λ_ A h=>ul 5 k z λk=>sC k call74 z (HU A (m.v Bn 3 z)) λ_ _ Z=>?_;obtain ⟨_,rfl,e,A,J⟩:=Z;refine ⟨_,z,λa k=>?_⟩;have m:=m.mt 3 z e A J;refine ul 3 k z λk=>dI [] m z λA m s=>o2 h λ_ Q _ O h=>dr [0,3,1,2,4,5,6,7] 8 [iF (Enc.ow_rd L) Q,eF (A.q L 2 z) Q 0,iF (Enc.ow_rd J) O,eF (A.q J 3 z) O 0] k z s λk=>bT h k 32 z (λh k=>?_) λh k=>?_
   · refine o2 h λ_ O _ Q h=>dr [8,11,9,10,12,13,14,15,16] 9 [iF (Enc.ow_rd L) O,eF (A.q L 2 z) O 0,iF (Enc.ow_rd J) Q,eF (A.q J 3 z) Q 0] k z s λk=>bT h k 41 z (λh k=>?_) λh k=>?_
     · refine o2 h λ_ O _ Q h=>dr [17,20,18,19,21,22,23,24,25] 9 [iF (Enc.ow_rd L) O,eF (A.q L 2 z) O 0,iF (Enc.ow_rd J) Q,eF (A.q J 3 z) Q 0] k z s λk=>bT h k 50 z (λh k=>?_) λh k=>?_
       · refine dr [26,27,28,29,30,31,32] 7 [bF A 0 M z,bF A 1 N z] k z s λk=>dD ?_;refine (AF ?_);refine wp_ret (fS h k m z z)
       refine dM [26,27,28,29,30,31,32] 7 z k z s λa k=>dD ?_;refine (AF ?_);refine wp_ret (fS h k m z z)
     refine dM [17,18,19,20,21,22,23,24,25,26,27,28,29,30,31,32] 16 z k z s λa k=>dD ?_;refine (AF ?_);refine wp_ret (fS h k m z z)
   refine dM [8,9,10,11,12,13,14,15,16,17,18,19,20,21,22,23,24,25,26,27,28,29,30,31,32] 25 z k z s λa k=>dD ?_;refine (AF ?_);refine wp_ret (fS h k m z z)
 refine dI [] m z λA m s=>dr [0,1,2,3,4,5,7,8,9,10,11,12] 12 [bF A 1 M z,bF A 1 M z,bF A 1 M z,bF A 0 N z,bF A 0 N z,bF A 0 N z] k z s λk=>VC 6 13 AQ z z ?_ ?_
 · refine BD AV m k z z z z z z z A1 z (by exact fC z (fC z (fC z fN))) λ_ _ _ a k m e J A=>?_;have L:=s.lo A;have A:=AO J ([D.fW,D.fH,D.fD]:List Int) z z z;refine ns s e λs=>dM [14] 1 z k z s λa k=>dG 13 z (BD AV m k z z z z z z z A1 z (by exact fC z (fC z (fC z fN))) λ_ _ _ a k m e L J=>?_);have M:=s.lo J;have J:=AO L ([E.fW,E.fH,E.fD]:List Int) z z z;refine ns s e λs=>dM [15] 1 z k z s λa k=>dD ((AF ?_));exact ⟨_,_,_,_,_,_,_,_,k.p z,m.sl [3,2,1,0] z,A,J,h⟩
 refine BD AV m k z z z z z z z A1 z (by exact fC z (fC z (fC z fN))) λ_ _ _ a k m e J A=>?_;have L:=s.lo A;have L:=AO J ([E.fW,E.fH,E.fD]:List Int) z z z;refine ns s e λs=>dG 6 z (BD AV m k z z z z z z z A1 z (by exact fC z (fC z (fC z fN))) λ_ _ _ a k m e E A=>?_);have J:=s.lo A;have A:=AO E ([D.fW,D.fH,D.fD]:List Int) z z z;refine ns s e λs=>dM [14,15] 2 z k z s λa k=>dD ((AF ?_));exact ⟨_,_,_,_,_,_,_,_,k.p z,m.sl [3,2,0,1] z,A,L,h⟩
theorem g0 (fu) {E} (D A) {L} (J:bx E L [I A.fe,I A.fW,I A.fH,I A.fD,I A.ff,I A.fQ,I A.fd] 102) {r} (h:UV fu D A=some r):cS 67 [.agg (Flat.e (D)).toArray,pt L] E (.bool (r)):=by
 refine eg func67 z ntmps67 z λk m=>uc 2 k z λk=>AW m k z z z z z z λ_ _ a k m e A=>gl 6 [bA m 0 A z] k z λk=>sv k z (DV YW (J.at (m.a00 J.lt1) 0 7 z z z) z k z z) λa k=>oE h λ_ A h=>cC k m call68 z (di A) λ_ e a k m=>ul 5 k z λk=>fS h k m z z
theorem im (fu) {J} (E D) {L} (A:bx J L [I D.fW,I D.fD,I D.fH,I D.fQ] 32) {r} (h:U6 fu E D=some r):cS 70 [.agg (Flat.e (E)).toArray,pt L] J (.bool (r)):=by
 refine eg func70 z ntmps70 z λk m=>uc 2 k z λk=>AW m k z z z z z z λ_ _ a k m e D=>gl 11 [bF m 0 D z,pF (r:=[]) (A.at (m.a00 A.lt1) 0 1 z z z)] k z λk=>bT h k 9 z (λh k=>?_) λh k=>?_
 · refine ul 27 k z λk=>fS h k m z z
 refine gl 7 [bF m 0 D z,pF (r:=[]) (A.at (m.a00 A.lt1) 1 1 z z z)] k z λk=>bT h k 16 z (λh k=>?_) λh k=>?_
 · refine ul 20 k z λk=>fS h k m z z
 refine gl 7 [bF m 0 D z,pF (r:=[]) (A.at (m.a00 A.lt1) 2 1 z z z)] k z λk=>bT h k 23 z (λh k=>?_) λh k=>?_
 · refine ul 13 k z λk=>fS h k m z z
 refine gl 13 [bF m 0 D z,bF m 0 D z,pF (r:=[]) (A.at (m.a00 A.lt1) 3 1 z z z)] k z λk=>fS h k m z z
theorem bg {fu J D M Q r} (h:Vq fu D=some r) (T:rd J Q M D):cS 26 [.agg M.toArray] J (I r):=by
 refine eg func26 z ntmps26 z λk m=>?_;obtain ⟨_,_,_,_,_,_,rfl,rfl,J,E,D⟩:=T;refine uc 2 k z λk=>AW m k z z z z z z λ_ _ a k m e A=>oE h λ_ M h=>gl 6 [bA m 0 A z] k z λk=>cC k m call62 z (WP M (AE (m.r J) (m.r E) (m.r D))) λ_ e a k m=>pN 3 k z λa k=>AP m k zeroValue102 z z z z z λQ _ a k m e M=>sT sizeOf102 m 0 M 0 k z z λ_ a k e m N=>gl 7 [bA m 1 A z] k z λk=>AP m k zeroValue32 z z z z z λV _ a k m e M=>sT sizeOf32 m 0 M 0 k z z λ_ a k e m U=>oE h λ_ M h=>gl 7 [bA m 2 A z] k z λk=>cC k m call63 z (ei M (AE (m.r J) (m.r E) (m.r D))) λ_ e a k m=>ul 4 k z λk=>?_;refine cJ h k z (λh=>?_) λh=>?_
 · refine uc 8 k z λk=>fS h k m z z
 refine oE h λ_ M h=>gc 3 [bA m 2 A z] k z λk=>cC k m call64 z (iy M (AE (m.r J) (m.r E) (m.r D))) λ_ e a k m=>lJ 4 h k z (λh k=>?_) λh k=>?_
 · refine uc 8 k z λk=>fS h k m z z
 refine oE h λ_ M h=>gc 6 [bF m 2 A z,bF m 2 A z] k z λk=>cC k m call65 z (g6 M (m.r J)) λ_ e a k m=>lJ 4 h k z (λh k=>?_) λh k=>?_
 · refine uc 8 k z λk=>fS h k m z z
 refine oE h λ_ J h=>gc 5 [bF m 2 A z] k z λk=>cC k m call66 z (C2 J (m.r D) ⟨67,[pt Q],z,call67,λw _ _ r e O L=>by subst O; have m:=m.step e; exact g0 fu _ _ (N.agr (m.a 1 rfl) AD) L⟩) λ_ e a k m=>pN 1 k rfl λa k=>ul 2 k z λk=>cI h k rfl (λD h=>?_) λD h=>?_
 · refine uc 8 k z λk=>fS h k m z z
 refine oE h λ_ D h=>gc 5 [bF m 2 A z] k z λk=>cC k m call69 z (EB D (m.r E) ⟨70,[pt V],z,call70,λw _ _ r e Y L=>by subst Y; have m:=m.step e; exact im fu _ _ (U.agr (m.a 0 rfl) AD) L⟩) λ_ e a k m=>pN 1 k rfl λa k=>ul 2 k z λk=>cI h k rfl (λA h=>?_) λA h=>?_
 · refine uc 8 k z λk=>fS h k m z z
 refine uc 9 k z λk=>fS h k m z z
theorem X0 {fu E D r} (h:LD fu D=some r) (J:Te Tryz.prog E):cS 8 [.string (D)] E (I r):=by
 refine eg func8 z ntmps8 z λk m=>oE h λ_ D h=>uc 8 k z λk=>sC k call11 z (PA D (m.te J)) λ_ _ L=>?_;obtain ⟨_,_,rfl,e,A,D⟩:=L;refine ⟨_,z,λa k=>?_⟩;have m:=m.nw e D A;obtain ⟨_,_,_,_,_,_,rfl,rfl,E,J,D,_⟩:=A;have m:=m.split2;have m:=m.split2at1;refine pN 3 k z λa k=>AP m k zeroValue37 z z z z z λ_ _ a k m e A=>sT sizeOf37 m 0 A 0 k z (AH z (AH z (AH z (AH z (AH z (AH z (AH (A5 (Enc.ow_rd E)) (AH (A5 (Enc.ow_rd J)) (AH z (AH (A5 (Enc.ow_rd D)) DS)))))))))) λ_ a k e m A=>lJ 10 h k z (λh k=>?_) λh k=>?_
 · refine uc 7 k z λk=>fS h k m z z
 refine oE h λ_ L h=>gc 5 [bA m 0 A z] k z λk=>cC k m call26 z (bg L (AE (m.q E 1 z) (m.q J 2 z) (m.q D 3 z))) λ_ e a k m=>ul 4 k z λk=>fS h k m z z
theorem JP {fu D A E J r} (h:FZ fu A=some r) (L:rd D J E A):cS 48 [.agg E.toArray] D (.bool (r)):=by
 refine eg func48 z ntmps48 z λk m=>?_;obtain ⟨_,_,_,_,_,_,rfl,rfl,J,M,A⟩:=L;refine uc 2 k z λk=>AW m k z z z z z z λ_ _ a k m e D=>oE h λ_ E h=>gl 6 [bA m 0 D z] k z λk=>cC k m call26 z (bg E (AE (m.r J) (m.r M) (m.r A))) λ_ e a k m=>ul 5 k z λk=>fS h k m z z
theorem JS {fu J E A L r} (h:D9 fu E=some r) (D:rd J L [A] E):cL 231 [A] J r:=by
 refine eg func231 z ntmps231 z λk m=>uc 9 k z λk=>?_;obtain ⟨E,J,A⟩:=wX D;refine sv k z (A k underlying64 z z z) λa k=>ul 2 k z λk=>sj (b:=E) k z (λA=>?_) (λA=>?_)
 · have E:=J A;rw [E] at h;have h:some (([]:List Int))=some r:=h;refine uc 7 k z λk=>?_;cases h;exact C5 k z (RV.tmp k z) ⟨_,[],z,m.ext,(A0 _),AD⟩
 refine uc 4 k z λk=>sB AV m k z (by exact fN) λ_ _ _ a k m e A=>?_;have E:=AO A ([]:List Int) z z z;exact pN 1 k z λa k=>oE h λ_ A h=>BX A AV z m 0 E (News.rd (m.r D)) z z k z z z z z z z λ_ _ _ a k e m A=>ul 4 k z λk=>fL h k m A 0 z z
theorem Yi {fu:Nat} {A:World} {E:List Int} {J:Value} {D:List Nat} {r:List Int} (h:K3 fu E=some r) (M:ow A D [J] E):
    Calls Tryz.prog 232 #[J] A λe w=>∃ (J:Value) (L:List Nat),e=.returned J∧Ext D A w∧ow w L [J] r∧(∀ b∈L,b∈D∨A.heap.size≤b) :=
  j6 (λA off cap D w=>Tryz.slices_Compact_int A off cap D w) (λp cap w=>Tryz.slices_Compact_int_empty p cap w) E M h
theorem bf {fu J E D L r} (h:LS fu E=some r) (M:rd J L [D] E):cL 172 [D] J r:=by
 refine eg func172 z ntmps172 z λk m=>oE h λ_ D h=>uc 8 k z λk=>sL k m call231 z (JS D (m.r M)) λ_ _ _ E k m=>oE h λ_ D h=>ul 6 k z λk=>sC k call74 z (HU D (m.v E 0 z)) λ_ _ A=>?_;obtain ⟨_,rfl,e,E,D⟩:=A;refine ⟨_,z,λa k=>?_⟩;have m:=m.mt 0 z e E D;refine oE h λ_ E h=>ul 5 k z λk=>sC k call232 z (Yi E (m.v D 0 z)) λ_ _ A=>?_;obtain ⟨_,_,rfl,e,D,E⟩:=A;refine ⟨_,z,λa k=>?_⟩;have m:=m.mt 0 z e E D;exact ul 4 k z λk=>fL h k m D 0 z z
theorem gE {fu L A D E r} (h:U5 fu A=some r) (M:rd L E D A):cL 106 [.agg D.toArray] L r:=by
 refine eg func106 z ntmps106 z λk m=>?_;obtain ⟨_,_,_,_,T,_,rfl,rfl,J,N,D⟩:=M;refine uc 2 k z λk=>AW m k z z z z z z λ_ _ a k m e E=>oE h λ_ M h=>gl 7 [bA m 0 E z] k z λk=>cC k m call48 z (JP M (AE (m.r J) (m.r N) (m.r D))) λ_ e a k m=>lJ 3 h k z (λh k=>?_) λh k=>?_
 · refine uc 7 k z λk=>?_;cases h;exact C5 k z (RV.tmp k z) ⟨_,[],z,m.ext,(A0 _),AD⟩
 refine uc 4 k z λk=>sB AV m k z (by exact fN) λ_ _ _ a k m e J=>?_;have Q:=AO J ([]:List Int) z z z;refine gl 13 [bF m 1 E z,lF D] k z λk=>lG (λn a w=>∃ N M J E O,K 25 [(3,M),(11,T),(12,I (A.fU.length:Int)),(13,I O)] a∧St [] L w [(J,E)]∧ow E J [M] N∧I4 fu A n N O=some r) ?_ fu ?_
 · rintro _ a _ ⟨N,M,J,E,O,k,m,E,h⟩;refine uJ 6 h k z (λh k=>?_) λh k=>?_
   · refine oE h λJ A h=>gc 8 [iF D A,eA (m.r D) A] k z λk=>AP m k zeroValue104 z z z z z λ_ _ a k m e A=>sT sizeOf104 m 0 A 0 k z z λ_ a k e m A=>gl 6 [bF m 0 A z] k z λk=>sB AV m k z (by exact fC z fN) λ_ _ _ a k m e D=>?_;have A:=AO D ([J.fO]:List Int) z z z;exact oE h λ_ D h=>BX D AV z m 2 E (News.rd (m.q A 0 z)) z z k z z z z z z z λ_ _ _ a k e m A=>ul 9 k z λk=>⟨_,_,_,_,_,k.p z,m.sl [2] z,A,h⟩
   exact oE h λ_ A h=>uc 8 k z λk=>sL k m call172 z (bf A (m.q E 0 z)) λ_ _ _ A k m=>ul 4 k z λk=>fL h k m A 0 z z
 exact ⟨_,_,_,_,_,k.p z,m.f z,Q,h⟩
theorem iX {fu L M E A D N r} (h:Wq fu M E A=some r) (J:rd L N [D] M):cS 176 [D,I E,I A] L (.bool (r)):=by
 refine eg func176 z ntmps176 z λk m=>oE h λ_ A h=>uc 10 k z λk=>cC k m call139 z (RH A (m.r J)) λ_ e a k m=>pN 1 k z λa k=>bT h k 11 z (λh k=>?_) λh k=>?_
 · refine pN 3 k z λa k=>oE h λ_ A h=>cC k m call139 z (RH A (m.r J)) λ_ e a k m=>ul 5 k z λk=>fS h k m z z
 refine ul 9 k z λk=>fS h k m z z
theorem aV (fu) {A} (J L D) {E O M} (N:bx A M [E] 33) (Q:rd A O [E] L) {O} (E:bx A O [I D] 3) {r} (h:NB fu J L D=some r):cS 175 [I J,pt M,pt O] A (.bool (r)):=by
 refine eg func175 z ntmps175 z λk m=>oE h λ_ A h=>gc 10 [pF (r:=[]) (N.at (m.a00 N.lt1) 0 1 z z z),pF (r:=[]) (E.at (m.a00 E.lt1) 0 1 z z z)] k z λk=>cC k m call176 z (iX A (m.r Q)) λ_ e a k m=>ul 5 k z λk=>fS h k m z z
theorem NZ {fu D A J E O L r} (h:E1 fu A J=some r) (M:rd D O [E] A) (Q:WB Tryz.prog D L J):cS 220 [E,L] D (I r):=by
 refine eg func220 z ntmps220 z λk m=>?_;obtain ⟨V,N,rfl,O,U⟩:=Q;refine gc 14 [lF M] k z λk=>lG (λn a w=>∃ L,K 19 [(0,E),(1,(.func (.func V) #[] N.toArray)),(7,I (A.length:Int)),(8,I L)] a∧St [] D w []∧DE fu A J n L=some r) ?_ fu ?_
 · rintro _ a _ ⟨L,k,m,h⟩;refine uJ 6 h k z (λh k=>?_) λh k=>?_
   · refine o2 h λ_ A _ D h=>gc 17 [iF M A,eF (m.r M) A 0] k z λk=>UA k O z z z z z z (U _ _ _ _ m.ext z D) λ_ _ T=>?_;obtain ⟨rfl,e⟩:=T;refine ⟨_,z,λa k=>?_⟩;have m:=m.step e;refine lJ 2 h k z (λh k=>?_) λh k=>?_
     · refine uc 12 k z λk=>fS h k m z z
     exact uc 8 k z λk=>⟨_,k.p z,m.f z,h⟩
   refine uc 11 k z λk=>fS h k m z z
 exact ⟨_,k.p z,m.f z,h⟩
theorem LN {fu A E L D M J r} (h:D1 fu E L=some r) (N:rd A M [D] E) (O:WB Tryz.prog A J L):cS 154 [D,J] A (.bool (r)):=by
 refine eg func154 z ntmps154 z λk m=>?_;obtain ⟨_,_,rfl,A,E⟩:=O;refine oE h λ_ D h=>uc 9 k z λk=>cC k m call220 z (NZ D (m.r N) ⟨_,_,z,A,λw A D r e=>E w A D r (m.ext.trans e AD)⟩) λ_ e a k m=>ul 5 k z λk=>fS h k m z z
theorem d6 (fu) {A} (M N Q) {J D} (Y:rd A D [J] M) {E U D} (L:bx A D [E] 33) (Z:rd A U [E] N) {E} (O:bx A E [I Q] 3) {r} (h:SA fu M N Q=some r):cS 174 [J,pt D,pt E] A (.bool (r)):=by
 refine eg func174 z ntmps174 z λk m=>oE h λ_ A h=>uc 9 k z λk=>cC k m call154 z (LN A (m.r Y) ⟨175,[pt D,pt E],z,call175,λw _ _ r e V T=>by subst V; have m:=m.step e; exact aV fu _ _ _ (L.agr (m.a00 L.lt1) AD) (m.r Z) (O.agr (m.a00 O.lt1) AD) T⟩) λ_ e a k m=>pN 2 k rfl λa k=>ul 3 k z λk=>fS h k m rfl rfl
theorem NA {fu E A L J T M r} (h:EU fu A L=some r) (D:rd E T [J] A) (e:WB Tryz.prog E M L):cS 173 [J,M] E (I r):=by
 refine eg func173 z ntmps173 z λk m=>?_;obtain ⟨Z,U,rfl,O,Ap⟩:=e;refine gc 14 [lF D] k z λk=>lG (λn a w=>∃ M,K 19 [(0,J),(1,(.func (.func Z) #[] U.toArray)),(7,I (A.length:Int)),(8,I M)] a∧St [] E w []∧CZ fu A L n M=some r) ?_ fu ?_
 · rintro _ a _ ⟨M,k,m,h⟩;refine uJ 6 h k z (λh k=>?_) λh k=>?_
   · refine oE h λ_ A h=>gc 16 [iF D A] k z λk=>?_;obtain ⟨_,Q,_,N,Ak,V⟩:=AR D (AG A).2.2;obtain ⟨_,rfl⟩:∃ v,Q=[v]:=by obtain ⟨_,_,A,_⟩:=N; exact ⟨_,A⟩
     refine oE h λ_ A h=>gl 1 [pF (Ak.agr (m.a00 (Enc.rd_lt D)) V)] k z λk=>UA k O z z z z z z (Ap _ _ _ _ m.ext ⟨_,(m.r N)⟩ A) λ_ _ Y=>?_;obtain ⟨rfl,e⟩:=Y;refine ⟨_,z,λa k=>?_⟩;have m:=m.step e;refine lJ 2 h k z (λh k=>?_) λh k=>?_
     · refine uc 12 k z λk=>fS h k m z z
     exact uc 8 k z λk=>⟨_,k.p z,m.f z,h⟩
   refine uc 11 k z λk=>fS h k m z z
 exact ⟨_,k.p z,m.f z,h⟩
theorem iY {fu O U Ba N F3 V F7 r} (h:Wl fu U Ba=some r) (Aw:rd O F3 [N] U) (Be:rd O F7 [V] Ba):cL 105 [N,V] O r:=by
 refine eg func105 z ntmps105 z λk m=>uc 2 k z λk=>AW m k z z z z z (CK Aw) λM Q a k m e Dj=>ul 5 k z λk=>sB QD m k z (by exact fN) λ_ _ _ a k m e N=>?_;have Dd:=QP (α:=List Int) N;refine oE h λV N h=>ul 7 k z λk=>sL k m call172 z (bf N (m.r Be)) λZ Bf Y Ah k m=>gl 5 [lF (Enc.ow_rd Ah)] k z λk=>lG (λn a w=>∃ Af Ae L Ap N,K 42 [(2,pt M),(5,Ae),(11,Bf),(12,I (V.length:Int)),(13,I N)] a∧St [] O w [([M],Q),(Y,Z),(L,Ap)]∧ow Ap L [Ae] Af∧GJ fu U V n Af N=some r) ?_ fu ?_
 · rintro Bt a _ ⟨Af,Ae,L,Ap,N,k,m,D,h⟩;refine uJ 6 h k z (λh k=>?_) λh k=>?_
   · refine uc 2 k z λk=>cg (λa w=>∃ Ao Ak Al Ar,K 42 [(2,pt M),(5,Ak),(11,Bf),(12,I (V.length:Int)),(13,I N)] a∧St [] O w [([M],Q),(Y,Z),(Al,Ar)]∧ow Ar Al [Ak] Ao∧LF fu (GJ fu U V Bt) N Ao=some r) ?_ ?_
     · rintro a Ez ⟨Ao,Ak,Al,Ar,k,m,N,h⟩;exact uc 5 k z λk=>⟨_,_,_,_,_,k.p z,m.f z,N,h⟩
     refine oE h λAd N h=>gc 5 [iF (Enc.ow_rd Ah) N,eF (m.q Ah 1 z) N 0] k z λk=>AP m k zeroValue3 z z z z z λAx _ a k m e N=>sT sizeOf3 m 0 N 0 k z z λBk a k e m T=>oE h λ_ N h=>gl 6 [bF m 0 T z] k z λk=>cC k m call91 z (BA N) λ_ e a k m=>lJ 3 h k z (λh k=>?_) λh k=>?_
     · exact uc 4 k z λk=>⟨_,_,_,_,k.p z,m.sl [1,2,3] z,D,h⟩
     refine oE h λ_ N h=>uc 6 k z λk=>cC k m call173 z (NA N (m.q D 3 z) ⟨174,[pt M,pt Ax],z,call174,λw _ _ r e N O=>by obtain ⟨_,N⟩:=N; have m:=m.step e; exact d6 fu _ _ _ N (m.y Dj 1 z) (m.r Aw) (m.y T 0 z) O⟩) λ_ e a k m=>lJ 9 h k z (λh k=>?_) λh k=>?_
     · refine gc 3 [bF m 0 T z] k z λk=>sB AV m k z (by exact fC z fN) λV _ _ a k m e O=>?_;have N:=AO O ([Ad]:List Int) z z z;refine sB QD m k z (by exact (List.forall_mem_cons.2 ⟨congrArg Array.size (CK (Enc.ow_rd N)),fN⟩)) λ_ _ _ a k m e O=>oE h λ_ Co h=>?_;have U:=Enc.ow_agr N (m.a 1 z);have N:=News.box O (m.a 0 z) AD (m:=1);have O:=m.a 5 z;have m:=m.sl [5,1,0,2,3,4] z;have m:=m.join2;exact D6 (F:=L) (G:=[V]) Co QD z m D O N U (Agr.refl _ _) k z z z z z z λ_ _ _ a k e m N=>ul 4 k z λk=>⟨_,_,_,_,k.p z,m.sl [3,4,0] z,N,h⟩
     refine dI (L) m z λAn m s=>dM [0,1,2,3] 4 z k z s λa k=>oE h λ_ E h=>dT k 4 z z s (λw s=>BK (Enc.ow_rd D) E k d8 z z z) λa k=>?_;obtain ⟨_,Dq,_,Eb,_,_⟩:=AR (Enc.ow_rd D) (AG E).2.2;obtain ⟨_,rfl⟩:∃ v,Dq=[v]:=by obtain ⟨_,_,J,_⟩:=Eb; exact ⟨_,J⟩
     refine dT k 6 z z s (λw s=>A9 GP (r:=[]) (T.at (An.az 0 3 z z z s) 0 1 z z z) k z z) λa k=>?_;obtain ⟨_,Bu,_,Db,_,_⟩:=AR (Enc.ow_rd D) (AG E).2.2;obtain ⟨_,rfl⟩:∃ v,Bu=[v]:=by obtain ⟨_,_,J,_⟩:=Db; exact ⟨_,J⟩
     refine VC 5 7 AQ z z ?_ ?_ 
     · obtain ⟨_,Ee,_,Bx,Bd,Dr⟩:=AR (Enc.ow_rd D) (AG E).2.2;obtain ⟨_,rfl⟩:∃ v,Ee=[v]:=by obtain ⟨_,_,J,_⟩:=Bx; exact ⟨_,J⟩
       refine gl 1 [pF (Bd.agr (m.a 3 z) Dr)] k z λk=>wpList_nil ⟨s,?_⟩;refine dG 7 z (BD AV m k z z z z z z z A1 z (by exact fC z fN) λV T _ a k m e O N=>?_);have U:=s.lo N;have Dl:=AO O ([Ad]:List Int) z z z;refine ns s e λs=>dG 8 z ?_;obtain ⟨_,_,m,Cp,N,U,O⟩:=m.opnS 4 z D E Bd z (M':=[([V],T),([Ax],Bk),([M],Q),(Y,Z)]) z;refine oE h λ_ T h=>AZ T AV z m 1 N (News.rd (m.q Dl 2 z)) z z k z z z z z z z λEc T _ a k e m N V=>?_;have Fi:∀ y∈T,y∈(L)∨_≤y:=λy A=>(V y A).elim (λA=>(λy A=>(λy A=>Or.inl A) y (O y A)) y A) (λh=>Or.inr (Nat.le_trans s.size h));refine nt (λy A=>Or.inl (O y A)) s e λs=>oE h λ_ _ h=>dT k 9 z z s (λw s=>BK (Enc.ow_rd D) E k d8 z z z) λa k=>dG 10 z (Tv (α:=List Int) (sz:=1) (cs':=[Ec]) sizeOf64 m 0 Cp 0 k (CK (Enc.ow_rd N)) (A5 (Enc.ow_rd N)) z z z z z z z z z z λ_ a k e m O=>?_);obtain ⟨_,m,T⟩:=(m.sl [0,1,2,3,4,5] z).cls O N;refine nt (λy A=>Or.inl (U y A)) s e λs=>dD ?_;refine (ue 2 k z λk=>?_);exact ⟨_,_,_,_,k.p z,m.sl [3,4,0] z,T,h⟩
     refine BD AV m k z z z z z z z A1 z (by exact fC z fN) λCr Dk _ a k m e N O=>?_;have T:=s.lo O;have Bv:=AO N ([Ad]:List Int) z z z;refine ns s e λs=>?_;obtain ⟨_,Cy,_,Df,Gc,_⟩:=AR (Enc.ow_rd D) (AG E).2.2;obtain ⟨_,rfl⟩:∃ v,Cy=[v]:=by obtain ⟨_,_,J,_⟩:=Df; exact ⟨_,J⟩
     refine dG 5 z ?_;obtain ⟨_,Dx,_,Bw,Bh,Dg⟩:=AR (Enc.ow_rd D) (AG E).2.2;obtain ⟨_,rfl⟩:∃ v,Dx=[v]:=by obtain ⟨_,_,J,_⟩:=Bw; exact ⟨_,J⟩
     refine gl 1 [pF (Bh.agr (m.a 4 z) Dg)] k z λk=>wpList_nil ⟨s,?_⟩;refine dG 8 z ?_;obtain ⟨_,_,m,U,J,O,N⟩:=m.opnS 4 z D E Bh z (M':=[([Cr],Dk),([Ax],Bk),([M],Q),(Y,Z)]) z;refine oE h λ_ M h=>AZ M AV z m 1 J (News.rd (m.q Bv 2 z)) z z k z z z z z z z λM T _ a k e m J Q=>?_;have V:∀ y∈T,y∈(L)∨_≤y:=λy A=>(Q y A).elim (λA=>(λy A=>(λy A=>Or.inl A) y (N y A)) y A) (λh=>Or.inr (Nat.le_trans s.size h));refine nt (λy A=>Or.inl (N y A)) s e λs=>oE h λ_ _ h=>dT k 9 z z s (λw s=>BK (Enc.ow_rd D) E k d8 z z z) λa k=>dG 10 z (Tv (α:=List Int) (sz:=1) (cs':=[M]) sizeOf64 m 0 U 0 k (CK (Enc.ow_rd J)) (A5 (Enc.ow_rd J)) z z z z z z z z z z λ_ a k e m E=>?_);obtain ⟨_,m,L⟩:=(m.sl [0,1,2,3,4,5] z).cls E J;refine nt (λy A=>Or.inl (O y A)) s e λs=>dD ?_;refine (ue 2 k z λk=>?_);exact ⟨_,_,_,_,k.p z,m.sl [3,4,0] z,L,h⟩
   exact uc 12 k z λk=>fL h k m D 2 z z
 exact ⟨_,_,_,_,_,k.p z,m.sl [2,0,1] z,Dd,h⟩
end Go.Proofs.YtdgpkmgnjdpieaaGreatDoor
