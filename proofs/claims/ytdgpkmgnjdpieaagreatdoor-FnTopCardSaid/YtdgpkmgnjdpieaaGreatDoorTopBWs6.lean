/- FnTop: the walks of .. -/
import Derived.Test.YtdgpkmgnjdpieaaGreatDoorTopBWs5
set_option maxRecDepth 20000
set_option linter.unusedSimpArgs false
set_option linter.unusedVariables false
set_option linter.unnecessarySimpa false
namespace Go.Proofs.YtdgpkmgnjdpieaaGreatDoor
open Go Go.RowKit
open Enc (rd ow)
open Arg (argv)
open Ret (retv)
open Go.Proofs.Tryz
theorem b7 {fu E J L O M T N U r} (h:NF fu J L O=some r) (Q:rd E T M J) (Z:rd E U N L):cS 165 [.agg M.toArray,.agg N.toArray,I O] E (I r):=by
 refine eg func165 z ntmps165 z λk m=>?_;obtain ⟨_,_,_,_,_,_,rfl,rfl,V,Ai,Ao⟩:=Q;obtain ⟨_,_,_,_,rfl,rfl,D,N⟩:=Z;refine uc 2 k z λk=>AW m k z z z z z z λT Z a k m e Bm=>AW m k z z z z z z λU Bg a k m e Q=>oE h λBd M h=>gl 12 [bA m 0 Q z] k z λk=>sL k m call164 z (YZ M (GO (m.r D) (m.r N))) λBn Az Aj M k m=>ul 10 k z λk=>lG (λn a w=>∃ N O,K 32 [(3,pt T),(4,pt U),(7,I N),(8,Az),(9,I O)] a∧St [] E w [([T],Z),([U],Bg),(Aj,Bn)]∧GH fu J L Bd n N O=some r) ?_ fu ?_
 · rintro _ a _ ⟨N,O,k,m,h⟩;refine gJ 9 [lF (Enc.ow_rd M)] h k z (λh k=>?_) λh k=>?_
   · refine uc 4 k z λk=>dI [] m z λA m s=>o2 h λ_ J _ E h=>dr [0,4,5,1,2,3,6,7,8] 9 [bA A 0 Bm z,bF A 1 Q z,iF (Enc.ow_rd M) J,eF (A.q M 2 z) J 0,iF D E] k z s λk=>?_;obtain ⟨_,_,_,Y,Bo,Bk⟩:=AR D (AG E).2.2;obtain ⟨_,_,rfl,rfl,E⟩:=Y;refine dT k 9 z z s (λw s=>DV Ok (Bo.agr ((A.step s).a00 (Enc.rd_lt D)) Bk) z k z z) λa k=>dG 10 z (oE h λ_ A h=>cC k m call124 z (bL A (AE (m.r V) (m.r Ai) (m.r Ao)) (IZ (m.r E))) λ_ e a k m=>?_);refine ns s e λs=>dM [11,12] 2 z k z s λa k=>dD ((RF (AF ?_)));exact uc 6 k z λk=>⟨_,_,k.p z,m.f z,h⟩
   refine uc 12 k z λk=>fS h k m z z
 exact ⟨_,_,k.p z,m.sl [2,1,0] z,h⟩
theorem bj {fu O T J L Y D N r} (h:NN fu T J=some r) (M:rd O Y L T) (V:rd O N D J):cS 89 [.agg L.toArray,.agg D.toArray] O (.bool (r)):=by
 refine eg func89 z ntmps89 z λk m=>?_;obtain ⟨_,_,_,_,_,_,rfl,rfl,Be,Ba,Aw⟩:=M;obtain ⟨_,_,_,_,rfl,rfl,E,Z⟩:=V;refine uc 2 k z λk=>AW m k z z z z z z λL Y a k m e Bb=>AW m k z z z z z z λN V a k m e U=>oE h λM D h=>gl 7 [bF m 0 U z] k z λk=>cC k m call61 z (Zy D (m.r Z)) λ_ e a k m=>ul 10 k z λk=>lG (λn a w=>∃ D,K 57 [(2,pt L),(3,pt N),(5,I M),(6,I D)] a∧St [] O w [([L],Y),([N],V)]∧CX fu T J M n D=some r) ?_ fu ?_
 · rintro Ap a _ ⟨D,k,m,h⟩;refine uJ 8 h k z (λh k=>?_) λh k=>?_
   · refine uc 2 k z λk=>cg (λa w=>K 57 [(2,pt L),(3,pt N),(5,I M),(6,I D)] a∧St [] O w [([L],Y),([N],V)]∧O8 fu (CX fu T J M Ap) D=some r) ?_ ?_
     · rintro a _ ⟨k,m,h⟩;exact uc 6 k z λk=>⟨_,k.p z,m.f z,h⟩
     refine oE h λAq Bv h=>gc 5 [bA m 1 U z] k z λk=>sL k m call164 z (YZ Bv (GO (m.r E) (m.r Z))) λAy Bf Ar Q k m=>ul 3 k z λk=>cg (λa w=>K 57 [(2,pt L),(3,pt N),(5,I M),(6,I D),(7,Bf)] a∧St [] O w [([L],Y),([N],V),(Ar,Ay)]∧OA fu (CX fu T J M Ap) J D Aq=some r) ?_ ?_
     · rintro a _ ⟨k,m,h⟩;refine uc 6 k z λk=>lG (λn a w=>∃ Aj,K 57 [(2,pt L),(3,pt N),(5,I M),(6,I D),(7,Bf),(8,I Aj)] a∧St [] O w [([L],Y),([N],V),(Ar,Ay)]∧GK fu (CX fu T J M Ap) J D Aq n Aj=some r) ?_ fu ?_
       · rintro _ a _ ⟨Aj,k,m,h⟩;refine gJ 9 [lF (Enc.ow_rd Q)] h k z (λh k=>?_) λh k=>?_
         · refine uc 5 k z λk=>dI [] m z λA m s=>o2 h λ_ J _ D h=>dr [2,3,11,0,1,4,5,6,7] 9 [bF A 1 U z,iF (Enc.ow_rd Q) J,eF (A.q Q 2 z) J 0,iF E D] k z s λk=>?_;obtain ⟨_,_,_,Br,Bu,Bx⟩:=AR E (AG D).2.2;obtain ⟨_,_,rfl,rfl,_⟩:=Br;refine dT k 8 z z s (λw s=>A9 GP ((Bu.agr ((A.step s).a00 (Enc.rd_lt E)) Bx).fld 1 1 (Nat.le_of_ble_eq_true z)) k z z) λa k=>o2 h λ_ J _ D h=>dr [9,10,12,13,14,15] 6 [bF A 1 U z,iF (Enc.ow_rd Q) J,eF (A.q Q 2 z) J 0,iF E D] k z s λk=>?_;obtain ⟨_,_,_,Bs,Bn,Bj⟩:=AR E (AG D).2.2;obtain ⟨_,_,rfl,rfl,_⟩:=Bs;refine dT k 16 z z s (λw s=>A9 GP ((Bn.agr ((A.step s).a00 (Enc.rd_lt E)) Bj).fld 1 1 (Nat.le_of_ble_eq_true z)) k z z) λa k=>dM [17] 1 z k z s λa k=>dD ((AF ?_));refine cJ h k z (λh=>?_) λh=>?_
           · refine uc 15 k z λk=>fS h k m z z
           exact uc 9 k z λk=>⟨_,k.p z,m.f z,h⟩
         exact uc 6 k z λk=>⟨k.p z,m.f z,h⟩
       exact ⟨_,k.p z,m.f z,h⟩
     refine uc 1 k z λk=>dI [] m z λA m s=>dM [0] 1 z k z s λa k=>dT k 1 z z s (λw s=>ig (α:=Int) (Enc.ow_rd Q) k underlying64 z z) λa k=>dM [2,3] 2 z k z s λa k=>bT h k 23 z (λh k=>?_) λh k=>?_
     · refine dM [4,5,6,7,8,9,10,11,12] 9 z k z s λa k=>dD ((AF ?_));refine uc 13 k z λk=>fS h k m z z
     refine dr [6,4,5,8,9,10] 6 [bA A 1 Bb z,bA A 2 U z,bF A 1 Bb z] k z s λk=>dG 7 z (oE h λ_ A h=>?_);refine cC k m call165 z (b7 A (AE (m.r Be) (m.r Ba) (m.r Aw)) (GO (m.r E) (m.r Z))) λ_ e a k m=>ns s e λs=>dM [11,12] 2 z k z s λa k=>dD ((AF ?_));refine cJ h k z (λh=>?_) λh=>?_
     · refine uc 12 k z λk=>fS h k m z z
     exact uc 2 k z λk=>⟨k.p z,m.sl [1,2,0] z,h⟩
   refine uc 11 k z λk=>fS h k m z z
 exact ⟨_,k.p z,m.sl [1,0] z,h⟩
theorem kU {fu O Q T A E D V r} (h:Xp fu Q T=some r) (U:rd O E A Q) (L:rd O V D T):cS 29 [.agg A.toArray,.agg D.toArray] O (I r):=by
 refine eg func29 z ntmps29 z λk m=>?_;obtain ⟨_,_,_,_,_,_,rfl,rfl,J,N,M⟩:=U;obtain ⟨_,_,_,_,rfl,rfl,A,E⟩:=L;refine uc 2 k z λk=>AW m k z z z z z z λV Bs a k m e L=>AW m k z z z z z z λU Y a k m e D=>oE h λ_ Z h=>gl 7 [bA m 1 L z] k z λk=>cC k m call54 z (GW Z (AE (m.r J) (m.r N) (m.r M))) λ_ e a k m=>lJ 3 h k z (λh k=>?_) λh k=>?_
 · refine uc 7 k z λk=>fS h k m z z
 refine uc 2 k z λk=>cg (λa w=>K 54 [(2,pt V),(3,pt U)] a∧St [] O w [([V],Bs),([U],Y)]∧WT fu Q T=some r) ?_ ?_
 · rintro a _ ⟨k,m,h⟩;refine oE h λ_ O h=>gc 3 [bA m 0 L z] k z λk=>sL k m call82 z (IW O (AE (m.r J) (m.r N) (m.r M))) λ_ _ _ O k m=>oE h λ_ Q h=>gl 9 [bA m 2 D z] k z λk=>cC k m call83 z (d7 Q (m.q O 0 z) (GO (m.r A) (m.r E))) λ_ e a k m=>lJ 4 h k z (λh k=>?_) λh k=>?_
   · refine uc 8 k z λk=>fS h k m z z
   refine oE h λ_ Q h=>gc 4 [bA m 1 L z,bA m 2 D z] k z λk=>cC k m call84 z (dK Q (AE (m.r J) (m.r N) (m.r M)) (GO (m.r A) (m.r E))) λ_ e a k m=>lJ 4 h k z (λh k=>?_) λh k=>?_
   · refine uc 8 k z λk=>fS h k m z z
   refine oE h λ_ Q h=>gc 5 [bA m 1 L z,bA m 2 D z] k z λk=>cC k m call85 z (ee Q (AE (m.r J) (m.r N) (m.r M)) (m.q O 0 z) (GO (m.r A) (m.r E))) λ_ e a k m=>lJ 4 h k z (λh k=>?_) λh k=>?_
   · refine uc 8 k z λk=>fS h k m z z
   refine oE h λ_ O h=>gc 4 [bA m 1 L z,bA m 2 D z] k z λk=>cC k m call86 z (d4 O (AE (m.r J) (m.r N) (m.r M)) (GO (m.r A) (m.r E))) λ_ e a k m=>lJ 4 h k z (λh k=>?_) λh k=>?_
   · refine uc 8 k z λk=>fS h k m z z
   refine oE h λ_ O h=>gc 4 [bA m 1 L z,bA m 2 D z] k z λk=>cC k m call87 z (cQ O (AE (m.r J) (m.r N) (m.r M)) (GO (m.r A) (m.r E))) λ_ e a k m=>lJ 4 h k z (λh k=>?_) λh k=>?_
   · refine uc 8 k z λk=>fS h k m z z
   refine oE h λ_ O h=>gc 4 [bA m 1 L z,bA m 2 D z] k z λk=>cC k m call88 z (dV O (AE (m.r J) (m.r N) (m.r M)) (GO (m.r A) (m.r E))) λ_ e a k m=>lJ 4 h k z (λh k=>?_) λh k=>?_
   · refine uc 8 k z λk=>fS h k m z z
   refine oE h λ_ O h=>gc 4 [bA m 1 L z,bA m 2 D z] k z λk=>cC k m call89 z (bj O (AE (m.r J) (m.r N) (m.r M)) (GO (m.r A) (m.r E))) λ_ e a k m=>lJ 4 h k z (λh k=>?_) λh k=>?_
   · refine uc 8 k z λk=>fS h k m z z
   refine uc 9 k z λk=>fS h k m z z
 refine oE h λ_ J h=>gc 3 [bA m 0 D z] k z λk=>cC k m call46 z (Ww J (GO (m.r A) (m.r E))) λ_ e a k m=>pN 2 k z λa k=>bT h k 12 z (λh k=>?_) λh k=>?_
 · refine ul 13 k z λk=>fS h k m z z
 refine oE h λ_ J h=>gl 1 [bA m 0 D z] k z λk=>cC k m call81 z (ea J (GO (m.r A) (m.r E))) λ_ e a k m=>lJ 3 h k z (λh k=>?_) λh k=>?_
 · refine uc 7 k z λk=>fS h k m z z
 exact uc 2 k z λk=>⟨k.p z,m.sl [1,0] z,h⟩
theorem iK {fu T N J r} (h:Wv fu N J=some r):cS 10 [.string (N),.string (J)] T (.tuple #[I r.1,I r.2]):=by
 refine eg func10 z ntmps10 z λk m=>oE h λ_ J h=>uc 9 k z λk=>cC k m call23 z (Zt J) λ_ e a k m=>lJ 10 h k z (λh k=>?_) λh k=>?_
 · refine uc 9 k z λk=>?_;cases h;exact B4 k z (RV.tmp k z) (RV.tmp k z) ⟨z,m.ext⟩
 refine oE h λ_ J h=>uc 5 k z λk=>sC k call24 z (V0 J) λ_ _ A=>?_;obtain ⟨_,_,rfl,e,D,J⟩:=A;refine ⟨_,z,λa k=>?_⟩;have m:=m.nw e J D;obtain ⟨_,_,_,_,_,_,rfl,rfl,L,O,E,_⟩:=D;have m:=m.split2;have m:=m.split2at1;refine pN 3 k z λa k=>AP m k zeroValue37 z z z z z λ_ _ a k m e D=>sT sizeOf37 m 0 D 0 k z (AH z (AH z (AH z (AH z (AH z (AH z (AH (A5 (Enc.ow_rd L)) (AH (A5 (Enc.ow_rd O)) (AH z (AH (A5 (Enc.ow_rd E)) DS)))))))))) λ_ a k e m Q=>oE h λ_ D h=>ul 6 k z λk=>sC k call28 z (ej D) λ_ _ A=>?_;obtain ⟨_,_,rfl,e,M,D⟩:=A;refine ⟨_,z,λa k=>?_⟩;have m:=m.nw e D M;obtain ⟨_,_,_,_,rfl,rfl,D,A,_⟩:=M;have m:=m.split2;refine pN 3 k z λa k=>AP m k zeroValue43 z z z z z λ_ _ a k m e J=>sT sizeOf43 m 0 J 0 k z (AH (A5 (Enc.ow_rd D)) (AH (A5 (Enc.ow_rd A)) DS)) λ_ a k e m M=>lJ 10 h k z (λh k=>?_) λh k=>?_
 · refine uc 8 k z λk=>?_;cases h;exact B4 k z (RV.tmp k z) (RV.tmp k z) ⟨z,m.ext⟩
 refine oE h λ_ J h=>gc 6 [bA m 3 Q z,bA m 0 M z] k z λk=>cC k m call29 z (kU J (AE (m.q L 4 z) (m.q O 5 z) (m.q E 6 z)) (GO (m.q D 1 z) (m.q A 2 z))) λ_ e a k m=>ul 5 k z λk=>?_;cases h;exact B4 k z (RV.tmp k z) (RV.tmp k z) ⟨z,m.ext⟩
end Go.Proofs.YtdgpkmgnjdpieaaGreatDoor
