/- FnTop: the walks of .. -/
import Derived.Test.YtdgpkmgnjdpieaaGreatDoorTopBWs5
set_option maxRecDepth 20000
set_option linter.unusedSimpArgs false
set_option linter.unusedVariables false
set_option linter.unnecessarySimpa false
namespace Go.Proofs.YtdgpkmgnjdpieaaGreatDoor
open Go Go.RowKit
open Enc (rd ow)
open Arg (argv)
open Ret (retv)
open Go.Proofs.Tryz
theorem aN {fu E M O L J V N U r} (h:NW fu M O L=some r) (T:rd E V J M) (Q:rd E U N O):cS 165 [.agg J.toArray,.agg N.toArray,I L] E (I r):=by
 refine eg func165 z ntmps165 z λk m=>?_;obtain ⟨_,_,_,_,_,_,rfl,rfl,Y,Ar,Ah⟩:=T;obtain ⟨_,_,_,_,rfl,rfl,D,J⟩:=Q;refine uc 2 k z λk=>AW m k z z z z z z λU Bc a k m e Bd=>AW m k z z z z z z λT Bh a k m e Q=>oE h λBi L h=>gl 12 [bA m 0 Q z] k z λk=>sL k m call164 z (YN L (GO (m.r D) (m.r J))) λBp Bk V L k m=>ul 10 k z λk=>lG (λn a w=>∃ N J,K 32 [(3,pt U),(4,pt T),(7,I N),(8,Bk),(9,I J)] a∧St [] E w [([U],Bc),([T],Bh),(V,Bp)]∧GF fu M O Bi n N J=some r) ?_ fu ?_
 · rintro _ a _ ⟨N,J,k,m,h⟩;refine gJ 9 [lF (Enc.ow_rd L)] h k z (λh k=>?_) λh k=>?_
   · refine uc 4 k z λk=>dI [] m z λA m s=>o2 h λ_ J _ E h=>dr [0,4,5,1,2,3,6,7,8] 9 [bA A 0 Bd z,bF A 1 Q z,iF (Enc.ow_rd L) J,eF (A.q L 2 z) J 0,iF D E] k z s λk=>?_;obtain ⟨_,_,_,Bm,Z,Bq⟩:=AR D (AG E).2.2;obtain ⟨_,_,rfl,rfl,E⟩:=Bm;refine dT k 9 z z s (λw s=>DV OJ (Z.agr ((A.step s).a00 (Enc.rd_lt D)) Bq) z k z z) λa k=>dG 10 z (oE h λ_ A h=>cC k m call124 z (aG A (AE (m.r Y) (m.r Ar) (m.r Ah)) (I1 (m.r E))) λ_ e a k m=>?_);refine ns s e λs=>dM [11,12] 2 z k z s λa k=>dD ((RK (AF ?_)));exact uc 6 k z λk=>⟨_,_,k.p z,m.f z,h⟩
   refine uc 12 k z λk=>fS h k m z z
 exact ⟨_,_,k.p z,m.sl [2,1,0] z,h⟩
theorem bJ {fu O T N J V D M r} (h:NC fu T N=some r) (L:rd O V J T) (Y:rd O M D N):cS 89 [.agg J.toArray,.agg D.toArray] O (.bool (r)):=by
 refine eg func89 z ntmps89 z λk m=>?_;obtain ⟨_,_,_,_,_,_,rfl,rfl,Au,Az,Bb⟩:=L;obtain ⟨_,_,_,_,rfl,rfl,E,Ag⟩:=Y;refine uc 2 k z λk=>AW m k z z z z z z λL V a k m e Ba=>AW m k z z z z z z λJ Y a k m e U=>oE h λM D h=>gl 7 [bF m 0 U z] k z λk=>cC k m call61 z (Zb D (m.r Ag)) λ_ e a k m=>ul 10 k z λk=>lG (λn a w=>∃ D,K 57 [(2,pt L),(3,pt J),(5,I M),(6,I D)] a∧St [] O w [([L],V),([J],Y)]∧CX fu T N M n D=some r) ?_ fu ?_
 · rintro Ap a _ ⟨D,k,m,h⟩;refine uJ 8 h k z (λh k=>?_) λh k=>?_
   · refine uc 2 k z λk=>cg (λa w=>K 57 [(2,pt L),(3,pt J),(5,I M),(6,I D)] a∧St [] O w [([L],V),([J],Y)]∧OK fu (CX fu T N M Ap) D=some r) ?_ ?_
     · rintro a _ ⟨k,m,h⟩;exact uc 6 k z λk=>⟨_,k.p z,m.f z,h⟩
     refine oE h λAm Z h=>gc 5 [bA m 1 U z] k z λk=>sL k m call164 z (YN Z (GO (m.r E) (m.r Ag))) λAs Av Aq Q k m=>ul 3 k z λk=>cg (λa w=>K 57 [(2,pt L),(3,pt J),(5,I M),(6,I D),(7,Av)] a∧St [] O w [([L],V),([J],Y),(Aq,As)]∧OQ fu (CX fu T N M Ap) N D Am=some r) ?_ ?_
     · rintro a _ ⟨k,m,h⟩;refine uc 6 k z λk=>lG (λn a w=>∃ Z,K 57 [(2,pt L),(3,pt J),(5,I M),(6,I D),(7,Av),(8,I Z)] a∧St [] O w [([L],V),([J],Y),(Aq,As)]∧GL fu (CX fu T N M Ap) N D Am n Z=some r) ?_ fu ?_
       · rintro _ a _ ⟨Z,k,m,h⟩;refine gJ 9 [lF (Enc.ow_rd Q)] h k z (λh k=>?_) λh k=>?_
         · refine uc 5 k z λk=>dI [] m z λA m s=>o2 h λ_ D _ J h=>dr [2,3,11,0,1,4,5,6,7] 9 [bF A 1 U z,iF (Enc.ow_rd Q) D,eF (A.q Q 2 z) D 0,iF E J] k z s λk=>?_;obtain ⟨_,_,_,Bl,Bo,Bu⟩:=AR E (AG J).2.2;obtain ⟨_,_,rfl,rfl,_⟩:=Bl;refine dT k 8 z z s (λw s=>A9 GP ((Bo.agr ((A.step s).a00 (Enc.rd_lt E)) Bu).fld 1 1 (Nat.le_of_ble_eq_true z)) k z z) λa k=>o2 h λ_ D _ J h=>dr [9,10,12,13,14,15] 6 [bF A 1 U z,iF (Enc.ow_rd Q) D,eF (A.q Q 2 z) D 0,iF E J] k z s λk=>?_;obtain ⟨_,_,_,Bj,Br,Bv⟩:=AR E (AG J).2.2;obtain ⟨_,_,rfl,rfl,_⟩:=Bj;refine dT k 16 z z s (λw s=>A9 GP ((Br.agr ((A.step s).a00 (Enc.rd_lt E)) Bv).fld 1 1 (Nat.le_of_ble_eq_true z)) k z z) λa k=>dM [17] 1 z k z s λa k=>dD ((AF ?_));refine cJ h k z (λh=>?_) λh=>?_
           · refine uc 15 k z λk=>fS h k m z z
           exact uc 9 k z λk=>⟨_,k.p z,m.f z,h⟩
         exact uc 6 k z λk=>⟨k.p z,m.f z,h⟩
       exact ⟨_,k.p z,m.f z,h⟩
     refine uc 1 k z λk=>dI [] m z λA m s=>dM [0] 1 z k z s λa k=>dT k 1 z z s (λw s=>gE (α:=Int) (Enc.ow_rd Q) k underlying64 z z) λa k=>dM [2,3] 2 z k z s λa k=>bT h k 23 z (λh k=>?_) λh k=>?_
     · refine dM [4,5,6,7,8,9,10,11,12] 9 z k z s λa k=>dD ((AF ?_));refine uc 13 k z λk=>fS h k m z z
     refine dr [6,4,5,8,9,10] 6 [bA A 1 Ba z,bA A 2 U z,bF A 1 Ba z] k z s λk=>dG 7 z (oE h λ_ A h=>?_);refine cC k m call165 z (aN A (AE (m.r Au) (m.r Az) (m.r Bb)) (GO (m.r E) (m.r Ag))) λ_ e a k m=>ns s e λs=>dM [11,12] 2 z k z s λa k=>dD ((AF ?_));refine cJ h k z (λh=>?_) λh=>?_
     · refine uc 12 k z λk=>fS h k m z z
     exact uc 2 k z λk=>⟨k.p z,m.sl [1,2,0] z,h⟩
   refine uc 11 k z λk=>fS h k m z z
 exact ⟨_,k.p z,m.sl [1,0] z,h⟩
theorem jT {fu O Q T A U D E r} (h:W3 fu Q T=some r) (L:rd O U A Q) (V:rd O E D T):cS 29 [.agg A.toArray,.agg D.toArray] O (I r):=by
 refine eg func29 z ntmps29 z λk m=>?_;obtain ⟨_,_,_,_,_,_,rfl,rfl,J,N,M⟩:=L;obtain ⟨_,_,_,_,rfl,rfl,A,D⟩:=V;refine uc 2 k z λk=>AW m k z z z z z z λU Bp a k m e L=>AW m k z z z z z z λV Z a k m e E=>oE h λ_ Y h=>gl 7 [bA m 1 L z] k z λk=>cC k m call54 z (GX Y (AE (m.r J) (m.r N) (m.r M))) λ_ e a k m=>lJ 3 h k z (λh k=>?_) λh k=>?_
 · refine uc 7 k z λk=>fS h k m z z
 refine uc 2 k z λk=>cg (λa w=>K 54 [(2,pt U),(3,pt V)] a∧St [] O w [([U],Bp),([V],Z)]∧WT fu Q T=some r) ?_ ?_
 · rintro a _ ⟨k,m,h⟩;refine oE h λ_ O h=>gc 3 [bA m 0 L z] k z λk=>sL k m call82 z (I3 O (AE (m.r J) (m.r N) (m.r M))) λ_ _ _ O k m=>oE h λ_ Q h=>gl 9 [bA m 2 E z] k z λk=>cC k m call83 z (dW Q (m.q O 0 z) (GO (m.r A) (m.r D))) λ_ e a k m=>lJ 4 h k z (λh k=>?_) λh k=>?_
   · refine uc 8 k z λk=>fS h k m z z
   refine oE h λ_ Q h=>gc 4 [bA m 1 L z,bA m 2 E z] k z λk=>cC k m call84 z (dX Q (AE (m.r J) (m.r N) (m.r M)) (GO (m.r A) (m.r D))) λ_ e a k m=>lJ 4 h k z (λh k=>?_) λh k=>?_
   · refine uc 8 k z λk=>fS h k m z z
   refine oE h λ_ Q h=>gc 5 [bA m 1 L z,bA m 2 E z] k z λk=>cC k m call85 z (dH Q (AE (m.r J) (m.r N) (m.r M)) (m.q O 0 z) (GO (m.r A) (m.r D))) λ_ e a k m=>lJ 4 h k z (λh k=>?_) λh k=>?_
   · refine uc 8 k z λk=>fS h k m z z
   refine oE h λ_ O h=>gc 4 [bA m 1 L z,bA m 2 E z] k z λk=>cC k m call86 z (dO O (AE (m.r J) (m.r N) (m.r M)) (GO (m.r A) (m.r D))) λ_ e a k m=>lJ 4 h k z (λh k=>?_) λh k=>?_
   · refine uc 8 k z λk=>fS h k m z z
   refine oE h λ_ O h=>gc 4 [bA m 1 L z,bA m 2 E z] k z λk=>cC k m call87 z (cB O (AE (m.r J) (m.r N) (m.r M)) (GO (m.r A) (m.r D))) λ_ e a k m=>lJ 4 h k z (λh k=>?_) λh k=>?_
   · refine uc 8 k z λk=>fS h k m z z
   refine oE h λ_ O h=>gc 4 [bA m 1 L z,bA m 2 E z] k z λk=>cC k m call88 z (d4 O (AE (m.r J) (m.r N) (m.r M)) (GO (m.r A) (m.r D))) λ_ e a k m=>lJ 4 h k z (λh k=>?_) λh k=>?_
   · refine uc 8 k z λk=>fS h k m z z
   refine oE h λ_ O h=>gc 4 [bA m 1 L z,bA m 2 E z] k z λk=>cC k m call89 z (bJ O (AE (m.r J) (m.r N) (m.r M)) (GO (m.r A) (m.r D))) λ_ e a k m=>lJ 4 h k z (λh k=>?_) λh k=>?_
   · refine uc 8 k z λk=>fS h k m z z
   refine uc 9 k z λk=>fS h k m z z
 refine oE h λ_ J h=>gc 3 [bA m 0 E z] k z λk=>cC k m call46 z (Wb J (GO (m.r A) (m.r D))) λ_ e a k m=>pN 2 k z λa k=>bT h k 12 z (λh k=>?_) λh k=>?_
 · refine ul 13 k z λk=>fS h k m z z
 refine oE h λ_ J h=>gl 1 [bA m 0 E z] k z λk=>cC k m call81 z (dz J (GO (m.r A) (m.r D))) λ_ e a k m=>lJ 3 h k z (λh k=>?_) λh k=>?_
 · refine uc 7 k z λk=>fS h k m z z
 exact uc 2 k z λk=>⟨k.p z,m.sl [1,0] z,h⟩
theorem iw {fu Q O E r} (h:Wd fu O E=some r):cS 10 [.string (O),.string (E)] Q (.tuple #[I r.1,I r.2]):=by
 refine eg func10 z ntmps10 z λk m=>oE h λ_ E h=>uc 9 k z λk=>cC k m call23 z (Zf E) λ_ e a k m=>lJ 10 h k z (λh k=>?_) λh k=>?_
 · refine uc 9 k z λk=>?_;cases h;exact B4 k z (RV.tmp k z) (RV.tmp k z) ⟨z,m.ext⟩
 refine oE h λ_ E h=>uc 5 k z λk=>sC k call24 z (VD E) λ_ _ A=>?_;obtain ⟨_,_,rfl,e,D,E⟩:=A;refine ⟨_,z,λa k=>?_⟩;have m:=m.nw e E D;obtain ⟨_,_,_,_,_,_,rfl,rfl,N,L,M,_⟩:=D;have m:=m.split2;have m:=m.split2at1;refine pN 3 k z λa k=>AP m k zeroValue37 z z z z z λ_ _ a k m e D=>sT sizeOf37 m 0 D 0 k z (AH z (AH z (AH z (AH z (AH z (AH z (AH (A5 (Enc.ow_rd N)) (AH (A5 (Enc.ow_rd L)) (AH z (AH (A5 (Enc.ow_rd M)) DR)))))))))) λ_ a k e m T=>oE h λ_ D h=>ul 6 k z λk=>sC k call28 z (dV D) λ_ _ A=>?_;obtain ⟨_,_,rfl,e,J,D⟩:=A;refine ⟨_,z,λa k=>?_⟩;have m:=m.nw e D J;obtain ⟨_,_,_,_,rfl,rfl,D,A,_⟩:=J;have m:=m.split2;refine pN 3 k z λa k=>AP m k zeroValue43 z z z z z λ_ _ a k m e E=>sT sizeOf43 m 0 E 0 k z (AH (A5 (Enc.ow_rd D)) (AH (A5 (Enc.ow_rd A)) DR)) λ_ a k e m E=>lJ 10 h k z (λh k=>?_) λh k=>?_
 · refine uc 8 k z λk=>?_;cases h;exact B4 k z (RV.tmp k z) (RV.tmp k z) ⟨z,m.ext⟩
 refine oE h λ_ J h=>gc 6 [bA m 3 T z,bA m 0 E z] k z λk=>cC k m call29 z (jT J (AE (m.q N 4 z) (m.q L 5 z) (m.q M 6 z)) (GO (m.q D 1 z) (m.q A 2 z))) λ_ e a k m=>ul 5 k z λk=>?_;cases h;exact B4 k z (RV.tmp k z) (RV.tmp k z) ⟨z,m.ext⟩
end Go.Proofs.YtdgpkmgnjdpieaaGreatDoor
