/- FnTop: the walks of .. -/
import Derived.Test.YtdgpkmgnjdpieaaGreatDoorTopBWi3
set_option maxRecDepth 20000
set_option linter.unusedSimpArgs false
set_option linter.unusedVariables false
set_option linter.unnecessarySimpa false
namespace Go.Proofs.YtdgpkmgnjdpieaaGreatDoor
open Go Go.RowKit
open Enc (rd ow)
open Arg (argv)
open Ret (retv)
open Go.Proofs.Tryz
theorem YC {fu L E D J A r} (h:PU fu E D J A=some r):cS 219 [I E,I D,I J,I A] L (.bool (r)):=by
 refine eg func219 z ntmps219 z λk m=>uc 13 k z λk=>bT h k 14 z (λh k=>?_) λh k=>?_
 · refine ul 10 k z λk=>fS h k m z z
 refine ul 10 k z λk=>fS h k m z z
theorem gB {fu Q L M N O r} (h:Ux fu L M N O=some r):cS 151 [.agg (Flat.e (L)).toArray,.agg (Flat.e (M)).toArray,.agg (Flat.e (N)).toArray,.agg (Flat.e (O)).toArray] Q (.bool (r)):=by
 refine eg func151 z ntmps151 z λk m=>uc 2 k z λk=>AW m k z z z z z z λY w7 a k m e J=>AW m k z z z z z z λT Z a k m e D=>AW m k z z z z z z λU As a k m e E=>AW m k z z z z z z λV Al a k m e A=>ul 3 k z λk=>cg (λa w=>K 57 [(4,pt Y),(5,pt T),(6,pt U),(7,pt V)] a∧St [] Q w [([Y],w7),([T],Z),([U],As),([V],Al)]∧UW fu L M N O=some r) ?_ ?_
 · rintro a _ ⟨k,m,h⟩;refine oE h λ_ L h=>gc 10 [bF m 1 D z,bF m 0 J z,bF m 3 A z,bF m 2 E z] k z λk=>cC k m call219 z (YC L) λ_ e a k m=>pN 1 k z λa k=>bT h k 35 z (λh k=>?_) λh k=>?_
   · refine oE h λ_ L h=>gl 8 [bF m 1 D z,bF m 0 J z,bF m 3 A z,bF m 2 E z] k z λk=>cC k m call219 z (YC L) λ_ e a k m=>pN 2 k z λa k=>bT h k 46 z (λh k=>?_) λh k=>?_
     · refine oE h λ_ L h=>gl 8 [bF m 1 D z,bF m 0 J z,bF m 3 A z,bF m 2 E z] k z λk=>cC k m call219 z (YC L) λ_ e a k m=>ul 5 k z λk=>fS h k m z z
     refine ul 14 k z λk=>fS h k m z z
   refine ul 25 k z λk=>fS h k m z z
 refine oE h λ_ L h=>gc 4 [bA m 3 J z,bA m 2 D z] k z λk=>cC k m call218 z (Z3 L) λ_ e a k m=>pN 2 k z λa k=>bT h k 13 z (λh k=>?_) λh k=>?_
 · refine ul 22 k z λk=>fS h k m z z
 refine oE h λ_ J h=>gl 2 [bA m 1 E z,bA m 0 A z] k z λk=>cC k m call218 z (Z3 J) λ_ e a k m=>pN 3 k z λa k=>bT h k 19 z (λh k=>?_) λh k=>?_
 · refine ul 16 k z λk=>fS h k m z z
 refine hJ 8 [bF m 2 D z,bF m 0 A z] h k z (λh k=>?_) λh k=>?_
 · refine uc 7 k z λk=>fS h k m z z
 exact uc 2 k z λk=>⟨k.p z,m.sl [3,2,1,0] z,h⟩
theorem YK {fu L D A E J r} (h:ME fu D A=some r) (M:rd L J E D):cL 152 [.agg E.toArray,I A] L r:=by
 refine eg func152 z ntmps152 z λk m=>?_;obtain ⟨_,_,U,_,rfl,rfl,N,J⟩:=M;refine uc 2 k z λk=>AW m k z z z z z z λ_ _ a k m e E=>hJ 15 [bF m 0 E z,lF J,bF m 0 E z,lF N] h k z (λh k=>?_) λh k=>?_
 · refine uc 7 k z λk=>?_;cases h;exact C7 k z (RV.tmp k z) ⟨_,[],z,m.ext,(A0 _),AD⟩
 refine uc 4 k z λk=>sB AV m k z (by exact fN) λ_ _ _ a k m e M=>?_;have Y:=AO M ([]:List Int) z z z;refine gl 13 [bF m 1 E z,lF J] k z λk=>lG (λn a w=>∃ O Q N M E,K 34 [(1,I A),(5,Q),(17,U),(18,I (D.fE.length:Int)),(19,I E)] a∧St [] L w [(N,M)]∧ow M N [Q] O∧GA fu D A n O E=some r) ?_ fu ?_
 · rintro V a _ ⟨O,Q,N,M,E,k,m,T,h⟩;refine uJ 6 h k z (λh k=>?_) λh k=>?_
   · refine uc 2 k z λk=>cg (λa w=>∃ M Q N O,K 34 [(1,I A),(5,Q),(17,U),(18,I (D.fE.length:Int)),(19,I E)] a∧St [] L w [(N,O)]∧ow O N [Q] M∧L8 fu (GA fu D A V) E M=some r) ?_ ?_
     · rintro a _ ⟨M,Q,N,O,k,m,A,h⟩;exact uc 5 k z λk=>⟨_,_,_,_,_,k.p z,m.f z,A,h⟩
     refine oE h λ_ A h=>gc 6 [iF J A,eA (m.r J) A] k z λk=>AP m k zeroValue68 z z z z z λ_ _ a k m e A=>pN 1 k z λa k=>sT sizeOf68 m 0 A 0 k z z λ_ a k e m A=>hJ 10 [bF m 0 A z] h k z (λh k=>?_) λh k=>?_
     · refine uc 3 k z λk=>sB AV m k z (by exact fC z fN) λ_ _ _ a k m e A=>?_;have D:=AO A ([E]:List Int) z z z;exact oE h λ_ A h=>BX A AV z m 2 T (News.rd (m.q D 0 z)) z z k z z z z z z z λ_ _ _ a k e m A=>ul 4 k z λk=>⟨_,_,_,_,k.p z,m.sl [2] z,A,h⟩
     exact uc 3 k z λk=>⟨_,_,_,_,k.p z,m.sl [1] z,T,h⟩
   exact uc 12 k z λk=>fL h k m T 0 z z
 exact ⟨_,_,_,_,_,k.p z,m.f z,Y,h⟩
theorem a7 {fu E M O L J V N T r} (h:NQ fu M O L=some r) (Q:rd E V J M) (U:rd E T N O):cS 153 [.agg J.toArray,.agg N.toArray,I L] E (I r):=by
 refine eg func153 z ntmps153 z λk m=>?_;obtain ⟨_,_,_,_,_,_,rfl,rfl,Z,As,Ah⟩:=Q;obtain ⟨_,_,_,_,rfl,rfl,D,L⟩:=U;refine uc 2 k z λk=>AW m k z z z z z z λQ Bd a k m e Be=>AW m k z z z z z z λV Bh a k m e T=>oE h λU J h=>gl 13 [bA m 0 T z] k z λk=>sL k m call152 z (YK J (GO (m.r D) (m.r L))) λBp Bj Y L k m=>gl 5 [lF (Enc.ow_rd L)] k z λk=>lG (λn a w=>∃ N J,K 29 [(3,pt Q),(4,pt V),(7,I N),(12,Bj),(13,I (U.length:Int)),(14,I J)] a∧St [] E w [([Q],Bd),([V],Bh),(Y,Bp)]∧GH fu M O U n N J=some r) ?_ fu ?_
 · rintro _ a _ ⟨N,J,k,m,h⟩;refine uJ 6 h k z (λh k=>?_) λh k=>?_
   · refine oE h λ_ E h=>gc 11 [iF (Enc.ow_rd L) E,eF (m.q L 2 z) E 0] k z λk=>dI [] m z λA m s=>oE h λ_ E h=>dr [0,4,1,2,3,5] 6 [bA A 0 Be z,bF A 1 T z,iF D E] k z s λk=>?_;obtain ⟨_,_,_,Bl,Bk,Bq⟩:=AR D (AG E).2.2;obtain ⟨_,_,rfl,rfl,E⟩:=Bl;refine dT k 6 z z s (λw s=>DV OJ (Bk.agr ((A.step s).a00 (Enc.rd_lt D)) Bq) z k z z) λa k=>dG 7 z (oE h λ_ A h=>cC k m call108 z (bw A (AE (m.r Z) (m.r As) (m.r Ah)) (I1 (m.r E))) λ_ e a k m=>?_);refine ns s e λs=>dM [8,9] 2 z k z s λa k=>dD ((RK (AF ?_)));exact uc 5 k z λk=>⟨_,_,k.p z,m.f z,h⟩
   refine uc 12 k z λk=>fS h k m z z
 exact ⟨_,_,k.p z,m.sl [2,1,0] z,h⟩
theorem am (fu) {D} (V L U) {N Z M F9 O} (J:bx D O [N,M] 43) (E:rd D Z [N] L.fV) (N:rd D F9 [M] L.fE) {N Z M} (Q:bx D M [N] 64) (T:rd D Z [N] U) {r} (h:Ts fu V L U=some r):cS 155 [I V,pt O,pt M] D (.bool (r)):=by
 refine eg func155 z ntmps155 z λk m=>uc 6 k z λk=>dI [] m z λA m s=>dr [2,0] 2 [] k z s λk=>dT k 1 z z s (λw s=>A9 lq (r:=[]) (J.at ((A.step s).a00 J.lt1) 0 1 z z z) k z z) λa k=>oE h λ_ D h=>dr [3,4] 2 [iF E D] k z s λk=>?_;obtain ⟨_,_,_,As,Ar,Aq⟩:=AR E (AG D).2.2;obtain ⟨_,_,rfl,rfl,_⟩:=As;refine dT k 5 z z s (λw s=>A9 GP ((Ar.agr ((A.step s).a00 (Enc.rd_lt E)) Aq).fld 1 1 (Nat.le_of_ble_eq_true z)) k z z) λa k=>dF k 6 P6 z s λa k=>dT k 7 z z s (λw s=>A9 lq (r:=[]) (J.at ((A.step s).a00 J.lt1) 0 1 z z z) k z z) λa k=>dT k 8 z z s (λw s=>A9 Yn (r:=[]) (Q.at ((A.step s).a00 Q.lt1) 0 1 z z z) k z z) λa k=>o2 h λ_ D _ J h=>dr [9,10,11,12] 4 [iF T D,eF (A.r T) D 0,iF E J] k z s λk=>?_;obtain ⟨_,_,_,e,Ao,Y⟩:=AR E (AG J).2.2;obtain ⟨_,_,rfl,rfl,_⟩:=e;refine dT k 13 z z s (λw s=>A9 GP ((Ao.agr ((A.step s).a00 (Enc.rd_lt E)) Y).fld 1 1 (Nat.le_of_ble_eq_true z)) k z z) λa k=>dM [14,15] 2 z k z s λa k=>dD ((AF ?_));refine wp_ret (fS h k m z z)
theorem cF {fu M N J Bp F3 U F7 r} (h:PT fu N J=some r) (Dc:rd M F3 Bp N) (Bv:rd M F7 U J):cS 79 [.agg Bp.toArray,.agg U.toArray] M (I r):=by
 refine eg func79 z ntmps79 z λk m=>?_;obtain ⟨_,_,_,Ez,_,_,rfl,rfl,Aw,Ax,Az⟩:=Dc;obtain ⟨Ba,_,_,_,rfl,rfl,T,L⟩:=Bv;refine uc 2 k z λk=>AW m k z z z z z z λE V a k m e Ay=>AW m k z z z z z z λD Y a k m e Q=>ul 5 k z λk=>sB kd m k z (by exact fN) λ_ _ _ a k m e U=>?_;have Cd:=AO U ([]:List Box) z z z;refine gl 13 [bF m 1 Q z,lF T] k z λk=>lG (λn a w=>∃ O At Ar As U,K 96 [(2,pt E),(3,pt D),(5,At),(15,Ba),(16,I (J.fV.length:Int)),(17,I U)] a∧St [] M w [([E],V),([D],Y),(Ar,As)]∧ow As Ar [At] O∧HM fu N J n O U=some r) ?_ fu ?_
 · rintro _ a _ ⟨O,At,Ar,As,U,k,m,Z,h⟩;refine uJ 6 h k z (λh k=>?_) λh k=>?_
   · refine oE h λ_ U h=>gc 8 [iF T U] k z λk=>?_;obtain ⟨_,_,_,Cs,Bz,Cq⟩:=AR T (AG U).2.2;obtain ⟨_,_,rfl,rfl,U⟩:=Cs;refine sv k z (DV OJ (Bz.agr (m.a00 (Enc.rd_lt T)) Cq) z k z z) λa k=>AP m k zeroValue66 z z z z z λ_ _ a k m e Cb=>pN 1 k z λa k=>sT sizeOf66 m 0 Cb 0 k z (AH z (AH z (AH (A5 U) DR))) λ_ a k e m Ca=>oE h λAe Cj h=>gl 6 [bA m 1 Ay z,bA m 0 Ca z] k z λk=>cC k m call51 z (aM Cj (AE (m.r Aw) (m.r Ax) (m.r Az)) (I1 (m.r U))) λ_ e a k m=>AP m k zeroValue93 z z z z z λ_ _ a k m e U=>sT sizeOf93 m 0 U 0 k z z λ_ a k e m Bm=>ul 4 k z λk=>dI [] m z λA m s=>oE h λ_ U h=>dr [5,0,1,2,3,4,6,7] 8 [bA A 2 Ay z,bA A 0 Bm z,bF A 3 Q z,iF L U,eA (A.r L) U] k z s λk=>dG 8 z (oE h λ_ U h=>cC k m call150 z (iz U) λ_ e a k m=>?_);refine ns s e λs=>dM [9] 1 z k z s λa k=>dD ((AF ?_));refine cJ h k z (λh=>?_) λh=>?_
     · refine uc 12 k z λk=>fS h k m z z
     refine gc 5 [bA m 0 Bm z] k z λk=>sB kd m k z (by exact fC z fN) λ_ _ _ a k m e Cl=>?_;have U:=AO Cl ([Ae]:List Box) z z z;exact oE h λ_ Dl h=>BX Dl kd z m 5 Z (News.rd (m.q U 0 z)) z z k z z z z z z z λ_ _ _ a k e m U=>ul 9 k z λk=>⟨_,_,_,_,_,k.p z,m.sl [3,4,5] z,U,h⟩
   refine gc 14 [lF (Enc.ow_rd Z)] k z λk=>lG (λn a w=>∃ U,K 96 [(2,pt E),(3,pt D),(5,At),(41,I (O.length:Int)),(42,I U)] a∧St [] M w [([E],V),([D],Y),(Ar,As)]∧EF fu N J O n U=some r) ?_ fu ?_
   · rintro Ck a _ ⟨U,k,m,h⟩;refine uJ 6 h k z (λh k=>?_) λh k=>?_
     · refine uc 17 k z λk=>lG (λn a w=>∃ Av,K 96 [(2,pt E),(3,pt D),(5,At),(9,I U),(41,I (O.length:Int)),(42,I U),(45,I U),(46,I Av)] a∧St [] M w [([E],V),([D],Y),(Ar,As)]∧HG fu (EF fu N J O Ck) J O U n Av=some r) ?_ fu ?_
       · rintro _ a _ ⟨Av,k,m,h⟩;refine uJ 6 h k z (λh k=>?_) λh k=>?_
         · refine uc 11 k z λk=>dI [] m z λA m s=>o2 h λ_ O _ Bu h=>o2 h λ_ U _ Bn h=>dr [0,1,6,9,10,15,2,3,4,5,7,8,11,12,13,14,16,17] 18 [iF (Enc.ow_rd Z) O,eA (A.q Z 2 z) O,bF A 1 Q z,iF L Bu,eA (A.r L) Bu,iF (Enc.ow_rd Z) U,eA (A.q Z 2 z) U,bF A 1 Q z,iF L Bn,eA (A.r L) Bn] k z s λk=>dG 18 z (oE h λ_ O h=>cC k m call151 z (gB O) λ_ e a k m=>?_);refine ns s e λs=>dD ((AF ?_));refine cJ h k z (λh=>?_) λh=>?_
           · refine uc 15 k z λk=>fS h k m z z
           exact uc 8 k z λk=>⟨_,k.p z,m.f z,h⟩
         exact uc 11 k z λk=>⟨_,k.p z,m.f z,h⟩
       exact ⟨_,k.p z,m.f z,h⟩
     refine oE h λU O h=>gc 10 [bF m 1 Q z] k z λk=>cC k m call53 z (Y2 O (m.r L)) λ_ e a k m=>ul 4 k z λk=>lG (λn a w=>∃ O,K 96 [(2,pt E),(3,pt D),(72,I U),(73,I O)] a∧St [] M w [([E],V),([D],Y)]∧EE fu N J U n O=some r) ?_ fu ?_
     · rintro Bq a _ ⟨O,k,m,h⟩;refine uJ 6 h k z (λh k=>?_) λh k=>?_
       · refine uc 2 k z λk=>cg (λa w=>K 96 [(2,pt E),(3,pt D),(72,I U),(73,I O)] a∧St [] M w [([E],V),([D],Y)]∧Q6 fu (EE fu N J U Bq) O=some r) ?_ ?_
         · rintro a _ ⟨k,m,h⟩;exact uc 5 k z λk=>⟨_,k.p z,m.f z,h⟩
         refine oE h λBr Z h=>gc 11 [bA m 1 Q z] k z λk=>sL k m call152 z (YK Z (GO (m.r T) (m.r L))) λCn Dj Bi Aj k m=>AP m k zeroValue64 z z z z z λZ _ a k m e Cw=>CM (cs':=[Dj]) sizeOf64 m 0 Cw 0 k (CJ (Enc.ow_rd Aj)) (A5 (Enc.ow_rd Aj)) z z z z z z z z z λDd a k e m Bb=>ul 2 k z λk=>cg (λa w=>K 96 [(2,pt E),(3,pt D),(12,pt Z),(72,I U),(73,I O)] a∧St [] M w [([E],V),([D],Y),([Z],Dd),(Bi,Cn)]∧QP fu (EE fu N J U Bq) J O Br=some r) ?_ ?_
         · rintro a _ ⟨k,m,h⟩;refine oE h λ_ E h=>gc 4 [bF m 2 Bb z] k z λk=>cC k m call154 z (LP E (m.q Aj 3 z) ⟨155,[pt D,pt Z],z,call155,λw _ _ r e Ch hx=>by subst Ch; have m:=m.step e; exact am fu _ _ _ (Q.agr (m.a 1 rfl) AD) (m.r T) (m.r L) (Bb.agr (m.a 2 rfl) AD) (Enc.rd_agr (Enc.ow_rd Aj) (m.a 3 rfl)) hx⟩) λ_ e a k m=>ul 2 k z λk=>cI h k rfl (λD h=>?_) λD h=>?_
           · refine uc 11 k z λk=>fS h k m z z
           exact uc 3 k z λk=>⟨k.p z,m.f z,h⟩
         refine uc 1 k z λk=>dI [] m z λA m s=>dr [0] 1 [bF A 0 Bb z] k z s λk=>dT k 1 z z s (λw s=>gE (α:=Int) (Enc.ow_rd Aj) k underlying64 z z) λa k=>dM [2,3] 2 z k z s λa k=>bT h k 82 z (λh k=>?_) λh k=>?_
         · refine dM [4,5,6,7,8,9,10,11,12] 9 z k z s λa k=>dD ((AF ?_));refine uc 13 k z λk=>fS h k m z z
         refine dr [6,4,5,8,9,10] 6 [bA A 2 Ay z,bA A 3 Q z,bF A 2 Ay z] k z s λk=>dG 7 z (oE h λ_ A h=>?_);refine cC k m call153 z (a7 A (AE (m.r Aw) (m.r Ax) (m.r Az)) (GO (m.r T) (m.r L))) λ_ e a k m=>ns s e λs=>dM [11,12] 2 z k z s λa k=>dD ((AF ?_));refine cJ h k z (λh=>?_) λh=>?_
         · refine uc 12 k z λk=>fS h k m z z
         exact uc 2 k z λk=>⟨k.p z,m.sl [2,3,0,1] z,h⟩
       refine uc 11 k z λk=>fS h k m z z
     exact ⟨_,k.p z,m.f z,h⟩
   exact ⟨_,k.p z,m.f z,h⟩
 exact ⟨_,_,_,_,_,k.p z,m.sl [2,1,0] z,Cd,h⟩
theorem aS {fu L Q U Y F3 V F7 r} (h:UH fu Q U=some r) (Br:rd L F3 Y Q) (Z:rd L F7 V U):cS 27 [.agg Y.toArray,.agg V.toArray] L (I r):=by
 refine eg func27 z ntmps27 z λk m=>?_;obtain ⟨_,_,_,_,_,_,rfl,rfl,O,E,N⟩:=Br;obtain ⟨_,_,_,_,rfl,rfl,A,M⟩:=Z;refine uc 2 k z λk=>AW m k z z z z z z λV Z a k m e J=>AW m k z z z z z z λY Ay a k m e D=>oE h λ_ Bk h=>gl 7 [bA m 1 J z] k z λk=>cC k m call48 z (JW Bk (AE (m.r O) (m.r E) (m.r N))) λ_ e a k m=>lJ 3 h k z (λh k=>?_) λh k=>?_
 · refine uc 7 k z λk=>fS h k m z z
 refine uc 2 k z λk=>cg (λa w=>K 38 [(2,pt V),(3,pt Y)] a∧St [] L w [([V],Z),([Y],Ay)]∧WU fu Q U=some r) ?_ ?_
 · rintro a _ ⟨k,m,h⟩;refine oE h λ_ L h=>gc 3 [bA m 1 D z] k z λk=>sL k m call73 z (dn L (GO (m.r A) (m.r M))) λ_ _ _ L k m=>oE h λ_ Q h=>ul 6 k z λk=>sC k call74 z (HX Q (m.v L 0 z)) λ_ _ hR=>?_;obtain ⟨_,rfl,e,Q,L⟩:=hR;refine ⟨_,z,λa k=>?_⟩;have m:=m.mt 0 z e Q L;refine oE h λ_ Q h=>gl 7 [bA m 1 J z] k z λk=>sL k m call77 z (Xe Q (AE (m.r O) (m.r E) (m.r N))) λ_ _ _ U k m=>oE h λ_ Q h=>gl 1 [lF (Enc.ow_rd U)] k z λk=>sL k m call76 z (Z1 Q) λ_ _ _ Q k m=>oE h λ_ U h=>cC k m call75 z (Yv U (m.q L 2 z) (m.q Q 0 z)) λ_ e a k m=>lJ 3 h k z (λh k=>?_) λh k=>?_
   · refine uc 7 k z λk=>fS h k m z z
   refine oE h λ_ L h=>gc 7 [bA m 3 J z,bA m 4 D z] k z λk=>cC k m call78 z (aB L (AE (m.r O) (m.r E) (m.r N)) (GO (m.r A) (m.r M))) λ_ e a k m=>lJ 9 h k z (λh k=>?_) λh k=>?_
   · refine uc 8 k z λk=>fS h k m z z
   refine oE h λ_ L h=>gc 6 [bA m 3 J z,bA m 4 D z] k z λk=>cC k m call79 z (cF L (AE (m.r O) (m.r E) (m.r N)) (GO (m.r A) (m.r M))) λ_ e a k m=>ul 4 k z λk=>fS h k m z z
 refine oE h λ_ E h=>gc 3 [bA m 0 D z] k z λk=>cC k m call34 z (X5 E (GO (m.r A) (m.r M))) λ_ e a k m=>pN 2 k z λa k=>bT h k 13 z (λh k=>?_) λh k=>?_
 · refine ul 14 k z λk=>fS h k m z z
 refine oE h λ_ E h=>gl 2 [bF m 0 D z] k z λk=>cC k m call71 z (K9 E (m.r A) ⟨72,[],z,call72,λw _ _ r e T hx=>by obtain ⟨_,_,rfl,T⟩:=T; have m:=m.step e; exact hZ fu _ T hx⟩) λ_ e a k m=>lJ 3 h k z (λh k=>?_) λh k=>?_
 · refine uc 7 k z λk=>fS h k m z z
 exact uc 2 k z λk=>⟨k.p z,m.sl [1,0] z,h⟩
theorem Z7 {fu L T J r} (h:RI fu T J=some r) (D:Te Tryz.prog L):cS 9 [.string (T),.string (J)] L (.tuple #[I r.1,I r.2]):=by
 refine eg func9 z ntmps9 z λk m=>oE h λ_ J h=>uc 9 k z λk=>cC k m call8 z (Xz J (m.te D)) λ_ e a k m=>lJ 10 h k z (λh k=>?_) λh k=>?_
 · refine uc 9 k z λk=>?_;cases h;exact B4 k z (RV.tmp k z) (RV.tmp k z) ⟨z,m.ext⟩
 refine oE h λ_ J h=>uc 5 k z λk=>sC k call11 z (PL J (m.te D)) λ_ _ A=>?_;obtain ⟨_,_,rfl,e,E,J⟩:=A;refine ⟨_,z,λa k=>?_⟩;have m:=m.nw e J E;obtain ⟨_,_,_,_,_,_,rfl,rfl,Q,N,O,_⟩:=E;have m:=m.split2;have m:=m.split2at1;refine pN 3 k z λa k=>AP m k zeroValue37 z z z z z λ_ _ a k m e E=>sT sizeOf37 m 0 E 0 k z (AH z (AH z (AH z (AH z (AH z (AH z (AH (A5 (Enc.ow_rd Q)) (AH (A5 (Enc.ow_rd N)) (AH z (AH (A5 (Enc.ow_rd O)) DR)))))))))) λ_ a k e m U=>oE h λ_ E h=>ul 6 k z λk=>sC k call12 z (YQ E (m.te D)) λ_ _ A=>?_;obtain ⟨_,_,rfl,e,M,D⟩:=A;refine ⟨_,z,λa k=>?_⟩;have m:=m.nw e D M;obtain ⟨_,_,_,_,rfl,rfl,D,A,_⟩:=M;have m:=m.split2;refine pN 3 k z λa k=>AP m k zeroValue43 z z z z z λ_ _ a k m e E=>sT sizeOf43 m 0 E 0 k z (AH (A5 (Enc.ow_rd D)) (AH (A5 (Enc.ow_rd A)) DR)) λ_ a k e m E=>lJ 10 h k z (λh k=>?_) λh k=>?_
 · refine uc 8 k z λk=>?_;cases h;exact B4 k z (RV.tmp k z) (RV.tmp k z) ⟨z,m.ext⟩
 refine oE h λ_ J h=>gc 6 [bA m 3 U z,bA m 0 E z] k z λk=>cC k m call27 z (aS J (AE (m.q Q 4 z) (m.q N 5 z) (m.q O 6 z)) (GO (m.q D 1 z) (m.q A 2 z))) λ_ e a k m=>ul 5 k z λk=>?_;cases h;exact B4 k z (RV.tmp k z) (RV.tmp k z) ⟨z,m.ext⟩
theorem d5 {fu A J L D V E Q r} (h:R6 fu J L=some r) (U:rd A V D J) (M:rd A Q E L):cS 13 [.agg D.toArray,.agg E.toArray] A (.bool (r)):=by
 refine eg func13 z ntmps13 z λk m=>?_;obtain ⟨_,_,_,_,_,_,rfl,rfl,T,O,N⟩:=U;obtain ⟨_,_,_,_,rfl,rfl,E,J⟩:=M;refine uc 2 k z λk=>AW m k z z z z z z λ_ _ a k m e L=>AW m k z z z z z z λ_ _ a k m e D=>oE h λ_ A h=>gl 7 [bA m 1 L z,bA m 0 D z] k z λk=>cC k m call27 z (aS A (AE (m.r T) (m.r O) (m.r N)) (GO (m.r E) (m.r J))) λ_ e a k m=>ul 5 k z λk=>fS h k m z z
end Go.Proofs.YtdgpkmgnjdpieaaGreatDoor
