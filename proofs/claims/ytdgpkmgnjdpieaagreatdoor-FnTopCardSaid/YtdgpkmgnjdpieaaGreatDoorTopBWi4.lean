/- FnTop: the walks of .. -/
import Derived.Test.YtdgpkmgnjdpieaaGreatDoorTopBWi3
set_option maxRecDepth 20000
set_option linter.unusedSimpArgs false
set_option linter.unusedVariables false
set_option linter.unnecessarySimpa false
namespace Go.Proofs.YtdgpkmgnjdpieaaGreatDoor
open Go Go.RowKit
open Enc (rd ow)
open Arg (argv)
open Ret (retv)
open Go.Proofs.Tryz
theorem YO {fu L E J D A r} (h:Pv fu E J D A=some r):cS 219 [I E,I J,I D,I A] L (.bool (r)):=by
 refine eg func219 z ntmps219 z λk m=>uc 13 k z λk=>bT h k 14 z (λh k=>?_) λh k=>?_
 · refine ul 10 k z λk=>fS h k m z z
 refine ul 10 k z λk=>fS h k m z z
theorem eW {fu V M L O N r} (h:T7 fu M L O N=some r):cS 151 [.agg (Flat.e (M)).toArray,.agg (Flat.e (L)).toArray,.agg (Flat.e (O)).toArray,.agg (Flat.e (N)).toArray] V (.bool (r)):=by
 refine eg func151 z ntmps151 z λk m=>uc 2 k z λk=>AW m k z z z z z z λU w7 a k m e E=>AW m k z z z z z z λQ Aq a k m e D=>AW m k z z z z z z λY Ay a k m e J=>AW m k z z z z z z λT Z a k m e A=>ul 3 k z λk=>cg (λa w=>K 57 [(4,pt U),(5,pt Q),(6,pt Y),(7,pt T)] a∧St [] V w [([U],w7),([Q],Aq),([Y],Ay),([T],Z)]∧UR fu M L O N=some r) ?_ ?_
 · rintro a _ ⟨k,m,h⟩;refine oE h λ_ L h=>gc 10 [bF m 1 D z,bF m 0 E z,bF m 3 A z,bF m 2 J z] k z λk=>cC k m call219 z (YO L) λ_ e a k m=>pN 1 k z λa k=>bT h k 35 z (λh k=>?_) λh k=>?_
   · refine oE h λ_ L h=>gl 8 [bF m 1 D z,bF m 0 E z,bF m 3 A z,bF m 2 J z] k z λk=>cC k m call219 z (YO L) λ_ e a k m=>pN 2 k z λa k=>bT h k 46 z (λh k=>?_) λh k=>?_
     · refine oE h λ_ L h=>gl 8 [bF m 1 D z,bF m 0 E z,bF m 3 A z,bF m 2 J z] k z λk=>cC k m call219 z (YO L) λ_ e a k m=>ul 5 k z λk=>fS h k m z z
     refine ul 14 k z λk=>fS h k m z z
   refine ul 25 k z λk=>fS h k m z z
 refine oE h λ_ L h=>gc 4 [bA m 3 E z,bA m 2 D z] k z λk=>cC k m call218 z (Z8 L) λ_ e a k m=>pN 2 k z λa k=>bT h k 13 z (λh k=>?_) λh k=>?_
 · refine ul 22 k z λk=>fS h k m z z
 refine oE h λ_ E h=>gl 2 [bA m 1 J z,bA m 0 A z] k z λk=>cC k m call218 z (Z8 E) λ_ e a k m=>pN 3 k z λa k=>bT h k 19 z (λh k=>?_) λh k=>?_
 · refine ul 16 k z λk=>fS h k m z z
 refine hJ 8 [bF m 2 D z,bF m 0 A z] h k z (λh k=>?_) λh k=>?_
 · refine uc 7 k z λk=>fS h k m z z
 exact uc 2 k z λk=>⟨k.p z,m.sl [3,2,1,0] z,h⟩
theorem YT {fu J D E A L r} (h:MO fu D E=some r) (M:rd J L A D):cL 152 [.agg A.toArray,I E] J r:=by
 refine eg func152 z ntmps152 z λk m=>?_;obtain ⟨_,_,U,_,rfl,rfl,N,L⟩:=M;refine uc 2 k z λk=>AW m k z z z z z z λ_ _ a k m e A=>hJ 15 [bF m 0 A z,lF L,bF m 0 A z,lF N] h k z (λh k=>?_) λh k=>?_
 · refine uc 7 k z λk=>?_;cases h;exact C5 k z (RV.tmp k z) ⟨_,[],z,m.ext,(A0 _),AD⟩
 refine uc 4 k z λk=>sB AV m k z (by exact fN) λ_ _ _ a k m e M=>?_;have V:=AO M ([]:List Int) z z z;refine gl 13 [bF m 1 A z,lF L] k z λk=>lG (λn a w=>∃ M O Q N A,K 34 [(1,I E),(5,O),(17,U),(18,I (D.fE.length:Int)),(19,I A)] a∧St [] J w [(Q,N)]∧ow N Q [O] M∧F8 fu D E n M A=some r) ?_ fu ?_
 · rintro Y a _ ⟨M,O,Q,N,A,k,m,Q,h⟩;refine uJ 6 h k z (λh k=>?_) λh k=>?_
   · refine uc 2 k z λk=>cg (λa w=>∃ N M O T,K 34 [(1,I E),(5,M),(17,U),(18,I (D.fE.length:Int)),(19,I A)] a∧St [] J w [(O,T)]∧ow T O [M] N∧LQ fu (F8 fu D E Y) A N=some r) ?_ ?_
     · rintro a _ ⟨N,M,O,T,k,m,D,h⟩;exact uc 5 k z λk=>⟨_,_,_,_,_,k.p z,m.f z,D,h⟩
     refine oE h λ_ D h=>gc 6 [iF L D,eA (m.r L) D] k z λk=>AP m k zeroValue68 z z z z z λ_ _ a k m e D=>pN 1 k z λa k=>sT sizeOf68 m 0 D 0 k z z λ_ a k e m D=>hJ 10 [bF m 0 D z] h k z (λh k=>?_) λh k=>?_
     · refine uc 3 k z λk=>sB AV m k z (by exact fC z fN) λ_ _ _ a k m e E=>?_;have D:=AO E ([A]:List Int) z z z;exact oE h λ_ A h=>BX A AV z m 2 Q (News.rd (m.q D 0 z)) z z k z z z z z z z λ_ _ _ a k e m A=>ul 4 k z λk=>⟨_,_,_,_,k.p z,m.sl [2] z,A,h⟩
     exact uc 3 k z λk=>⟨_,_,_,_,k.p z,m.sl [1] z,Q,h⟩
   exact uc 12 k z λk=>fL h k m Q 0 z z
 exact ⟨_,_,_,_,_,k.p z,m.f z,V,h⟩
theorem ba {fu E J L M O Q N V r} (h:NG fu J L M=some r) (U:rd E Q O J) (T:rd E V N L):cS 153 [.agg O.toArray,.agg N.toArray,I M] E (I r):=by
 refine eg func153 z ntmps153 z λk m=>?_;obtain ⟨_,_,_,_,_,_,rfl,rfl,Ao,Ai,Ap⟩:=U;obtain ⟨_,_,_,_,rfl,rfl,D,N⟩:=T;refine uc 2 k z λk=>AW m k z z z z z z λU Bc a k m e Z=>AW m k z z z z z z λQ Bh a k m e V=>oE h λT M h=>gl 13 [bA m 0 V z] k z λk=>sL k m call152 z (YT M (GO (m.r D) (m.r N))) λBn Ba Aj M k m=>gl 5 [lF (Enc.ow_rd M)] k z λk=>lG (λn a w=>∃ N O,K 29 [(3,pt U),(4,pt Q),(7,I N),(12,Ba),(13,I (T.length:Int)),(14,I O)] a∧St [] E w [([U],Bc),([Q],Bh),(Aj,Bn)]∧GL fu J L T n N O=some r) ?_ fu ?_
 · rintro _ a _ ⟨N,O,k,m,h⟩;refine uJ 6 h k z (λh k=>?_) λh k=>?_
   · refine oE h λ_ E h=>gc 11 [iF (Enc.ow_rd M) E,eF (m.q M 2 z) E 0] k z λk=>dI [] m z λA m s=>oE h λ_ E h=>dr [0,4,1,2,3,5] 6 [bA A 0 Z z,bF A 1 V z,iF D E] k z s λk=>?_;obtain ⟨_,_,_,Bf,Y,Bl⟩:=AR D (AG E).2.2;obtain ⟨_,_,rfl,rfl,E⟩:=Bf;refine dT k 6 z z s (λw s=>DV Ok (Y.agr ((A.step s).a00 (Enc.rd_lt D)) Bl) z k z z) λa k=>dG 7 z (oE h λ_ A h=>cC k m call108 z (bM A (AE (m.r Ao) (m.r Ai) (m.r Ap)) (IZ (m.r E))) λ_ e a k m=>?_);refine ns s e λs=>dM [8,9] 2 z k z s λa k=>dD ((RF (AF ?_)));exact uc 5 k z λk=>⟨_,_,k.p z,m.f z,h⟩
   refine uc 12 k z λk=>fS h k m z z
 exact ⟨_,_,k.p z,m.sl [2,1,0] z,h⟩
theorem ax (fu) {E} (Q L T) {M F6 O Z U} (J:bx E U [M,O] 43) (D:rd E F6 [M] L.fV) (M:rd E Z [O] L.fE) {M Z O} (N:bx E O [M] 64) (V:rd E Z [M] T) {r} (h:Ts fu Q L T=some r):cS 155 [I Q,pt U,pt O] E (.bool (r)):=by
 refine eg func155 z ntmps155 z λk m=>uc 6 k z λk=>dI [] m z λA m s=>dr [2,0] 2 [] k z s λk=>dT k 1 z z s (λw s=>A9 mP (r:=[]) (J.at ((A.step s).a00 J.lt1) 0 1 z z z) k z z) λa k=>oE h λ_ E h=>dr [3,4] 2 [iF D E] k z s λk=>?_;obtain ⟨_,_,_,e,Ak,Aq⟩:=AR D (AG E).2.2;obtain ⟨_,_,rfl,rfl,_⟩:=e;refine dT k 5 z z s (λw s=>A9 GP ((Ak.agr ((A.step s).a00 (Enc.rd_lt D)) Aq).fld 1 1 (Nat.le_of_ble_eq_true z)) k z z) λa k=>dF k 6 Ry z s λa k=>dT k 7 z z s (λw s=>A9 mP (r:=[]) (J.at ((A.step s).a00 J.lt1) 0 1 z z z) k z z) λa k=>dT k 8 z z s (λw s=>A9 Yx (r:=[]) (N.at ((A.step s).a00 N.lt1) 0 1 z z z) k z z) λa k=>o2 h λ_ J _ E h=>dr [9,10,11,12] 4 [iF V J,eF (A.r V) J 0,iF D E] k z s λk=>?_;obtain ⟨_,_,_,Ao,Ap,Y⟩:=AR D (AG E).2.2;obtain ⟨_,_,rfl,rfl,_⟩:=Ao;refine dT k 13 z z s (λw s=>A9 GP ((Ap.agr ((A.step s).a00 (Enc.rd_lt D)) Y).fld 1 1 (Nat.le_of_ble_eq_true z)) k z z) λa k=>dM [14,15] 2 z k z s λa k=>dD ((AF ?_));refine wp_ret (fS h k m z z)
theorem cT {fu M O J Bk F3 T F7 r} (h:PU fu O J=some r) (Cj:rd M F3 Bk O) (Ce:rd M F7 T J):cS 79 [.agg Bk.toArray,.agg T.toArray] M (I r):=by
 refine eg func79 z ntmps79 z λk m=>?_;obtain ⟨_,_,_,_,_,Ez,rfl,rfl,Az,Aw,Au⟩:=Cj;obtain ⟨Ay,_,_,_,rfl,rfl,U,L⟩:=Ce;refine uc 2 k z λk=>AW m k z z z z z z λE Y a k m e Ax=>AW m k z z z z z z λD Z a k m e N=>ul 5 k z λk=>sB kG m k z (by exact fN) λ_ _ _ a k m e T=>?_;have Cp:=AO T ([]:List Box) z z z;refine gl 13 [bF m 1 N z,lF U] k z λk=>lG (λn a w=>∃ Q As Aq At T,K 96 [(2,pt E),(3,pt D),(5,As),(15,Ay),(16,I (J.fV.length:Int)),(17,I T)] a∧St [] M w [([E],Y),([D],Z),(Aq,At)]∧ow At Aq [As] Q∧HI fu O J n Q T=some r) ?_ fu ?_
 · rintro _ a _ ⟨Q,As,Aq,At,T,k,m,V,h⟩;refine uJ 6 h k z (λh k=>?_) λh k=>?_
   · refine oE h λ_ T h=>gc 8 [iF U T] k z λk=>?_;obtain ⟨_,_,_,Cw,Dh,Ck⟩:=AR U (AG T).2.2;obtain ⟨_,_,rfl,rfl,T⟩:=Cw;refine sv k z (DV Ok (Dh.agr (m.a00 (Enc.rd_lt U)) Ck) z k z z) λa k=>AP m k zeroValue66 z z z z z λ_ _ a k m e Dd=>pN 1 k z λa k=>sT sizeOf66 m 0 Dd 0 k z (AH z (AH z (AH (A5 T) DS))) λ_ a k e m Cu=>oE h λAe Da h=>gl 6 [bA m 1 Ax z,bA m 0 Cu z] k z λk=>cC k m call51 z (bC Da (AE (m.r Az) (m.r Aw) (m.r Au)) (IZ (m.r T))) λ_ e a k m=>AP m k zeroValue93 z z z z z λ_ _ a k m e T=>sT sizeOf93 m 0 T 0 k z z λ_ a k e m Bm=>ul 4 k z λk=>dI [] m z λA m s=>oE h λ_ T h=>dr [5,0,1,2,3,4,6,7] 8 [bA A 2 Ax z,bA A 0 Bm z,bF A 3 N z,iF L T,eA (A.r L) T] k z s λk=>dG 8 z (oE h λ_ T h=>cC k m call150 z (je T) λ_ e a k m=>?_);refine ns s e λs=>dM [9] 1 z k z s λa k=>dD ((AF ?_));refine cJ h k z (λh=>?_) λh=>?_
     · refine uc 12 k z λk=>fS h k m z z
     refine gc 5 [bA m 0 Bm z] k z λk=>sB kG m k z (by exact fC z fN) λ_ _ _ a k m e Cy=>?_;have T:=AO Cy ([Ae]:List Box) z z z;exact oE h λ_ Ci h=>BX Ci kG z m 5 V (News.rd (m.q T 0 z)) z z k z z z z z z z λ_ _ _ a k e m T=>ul 9 k z λk=>⟨_,_,_,_,_,k.p z,m.sl [3,4,5] z,T,h⟩
   refine gc 14 [lF (Enc.ow_rd V)] k z λk=>lG (λn a w=>∃ T,K 96 [(2,pt E),(3,pt D),(5,As),(41,I (Q.length:Int)),(42,I T)] a∧St [] M w [([E],Y),([D],Z),(Aq,At)]∧EF fu O J Q n T=some r) ?_ fu ?_
   · rintro Cl a _ ⟨T,k,m,h⟩;refine uJ 6 h k z (λh k=>?_) λh k=>?_
     · refine uc 17 k z λk=>lG (λn a w=>∃ Ba,K 96 [(2,pt E),(3,pt D),(5,As),(9,I T),(41,I (Q.length:Int)),(42,I T),(45,I T),(46,I Ba)] a∧St [] M w [([E],Y),([D],Z),(Aq,At)]∧HG fu (EF fu O J Q Cl) J Q T n Ba=some r) ?_ fu ?_
       · rintro _ a _ ⟨Ba,k,m,h⟩;refine uJ 6 h k z (λh k=>?_) λh k=>?_
         · refine uc 11 k z λk=>dI [] m z λA m s=>o2 h λ_ Bu _ Q h=>o2 h λ_ Bs _ T h=>dr [0,1,6,9,10,15,2,3,4,5,7,8,11,12,13,14,16,17] 18 [iF (Enc.ow_rd V) Bu,eA (A.q V 2 z) Bu,bF A 1 N z,iF L Q,eA (A.r L) Q,iF (Enc.ow_rd V) Bs,eA (A.q V 2 z) Bs,bF A 1 N z,iF L T,eA (A.r L) T] k z s λk=>dG 18 z (oE h λ_ Q h=>cC k m call151 z (eW Q) λ_ e a k m=>?_);refine ns s e λs=>dD ((AF ?_));refine cJ h k z (λh=>?_) λh=>?_
           · refine uc 15 k z λk=>fS h k m z z
           exact uc 8 k z λk=>⟨_,k.p z,m.f z,h⟩
         exact uc 11 k z λk=>⟨_,k.p z,m.f z,h⟩
       exact ⟨_,k.p z,m.f z,h⟩
     refine oE h λT Q h=>gc 10 [bF m 1 N z] k z λk=>cC k m call53 z (ZA Q (m.r L)) λ_ e a k m=>ul 4 k z λk=>lG (λn a w=>∃ Q,K 96 [(2,pt E),(3,pt D),(72,I T),(73,I Q)] a∧St [] M w [([E],Y),([D],Z)]∧EE fu O J T n Q=some r) ?_ fu ?_
     · rintro Bo a _ ⟨Q,k,m,h⟩;refine uJ 6 h k z (λh k=>?_) λh k=>?_
       · refine uc 2 k z λk=>cg (λa w=>K 96 [(2,pt E),(3,pt D),(72,I T),(73,I Q)] a∧St [] M w [([E],Y),([D],Z)]∧Rp fu (EE fu O J T Bo) Q=some r) ?_ ?_
         · rintro a _ ⟨k,m,h⟩;exact uc 5 k z λk=>⟨_,k.p z,m.f z,h⟩
         refine oE h λBh V h=>gc 11 [bA m 1 N z] k z λk=>sL k m call152 z (YT V (GO (m.r U) (m.r L))) λCv Dm Bi Aj k m=>AP m k zeroValue64 z z z z z λV _ a k m e Cb=>CN (cs':=[Dm]) sizeOf64 m 0 Cb 0 k (CK (Enc.ow_rd Aj)) (A5 (Enc.ow_rd Aj)) z z z z z z z z z λDj a k e m Bf=>ul 2 k z λk=>cg (λa w=>K 96 [(2,pt E),(3,pt D),(12,pt V),(72,I T),(73,I Q)] a∧St [] M w [([E],Y),([D],Z),([V],Dj),(Bi,Cv)]∧QB fu (EE fu O J T Bo) J Q Bh=some r) ?_ ?_
         · rintro a _ ⟨k,m,h⟩;refine oE h λ_ E h=>gc 4 [bF m 2 Bf z] k z λk=>cC k m call154 z (LN E (m.q Aj 3 z) ⟨155,[pt D,pt V],z,call155,λw _ _ r e Cs hx=>by subst Cs; have m:=m.step e; exact ax fu _ _ _ (N.agr (m.a 1 rfl) AD) (m.r U) (m.r L) (Bf.agr (m.a 2 rfl) AD) (Enc.rd_agr (Enc.ow_rd Aj) (m.a 3 rfl)) hx⟩) λ_ e a k m=>ul 2 k z λk=>cI h k rfl (λD h=>?_) λD h=>?_
           · refine uc 11 k z λk=>fS h k m z z
           exact uc 3 k z λk=>⟨k.p z,m.f z,h⟩
         refine uc 1 k z λk=>dI [] m z λA m s=>dr [0] 1 [bF A 0 Bf z] k z s λk=>dT k 1 z z s (λw s=>ig (α:=Int) (Enc.ow_rd Aj) k underlying64 z z) λa k=>dM [2,3] 2 z k z s λa k=>bT h k 82 z (λh k=>?_) λh k=>?_
         · refine dM [4,5,6,7,8,9,10,11,12] 9 z k z s λa k=>dD ((AF ?_));refine uc 13 k z λk=>fS h k m z z
         refine dr [6,4,5,8,9,10] 6 [bA A 2 Ax z,bA A 3 N z,bF A 2 Ax z] k z s λk=>dG 7 z (oE h λ_ A h=>?_);refine cC k m call153 z (ba A (AE (m.r Az) (m.r Aw) (m.r Au)) (GO (m.r U) (m.r L))) λ_ e a k m=>ns s e λs=>dM [11,12] 2 z k z s λa k=>dD ((AF ?_));refine cJ h k z (λh=>?_) λh=>?_
         · refine uc 12 k z λk=>fS h k m z z
         exact uc 2 k z λk=>⟨k.p z,m.sl [2,3,0,1] z,h⟩
       refine uc 11 k z λk=>fS h k m z z
     exact ⟨_,k.p z,m.f z,h⟩
   exact ⟨_,k.p z,m.f z,h⟩
 exact ⟨_,_,_,_,_,k.p z,m.sl [2,1,0] z,Cp,h⟩
theorem aO {fu J Q T Y F3 V Z r} (h:UM fu Q T=some r) (Bg:rd J F3 Y Q) (Bf:rd J Z V T):cS 27 [.agg Y.toArray,.agg V.toArray] J (I r):=by
 refine eg func27 z ntmps27 z λk m=>?_;obtain ⟨_,_,_,_,_,_,rfl,rfl,E,O,M⟩:=Bg;obtain ⟨_,_,_,_,rfl,rfl,D,N⟩:=Bf;refine uc 2 k z λk=>AW m k z z z z z z λY Bk a k m e L=>AW m k z z z z z z λV Bt a k m e A=>oE h λ_ Z h=>gl 7 [bA m 1 L z] k z λk=>cC k m call48 z (JP Z (AE (m.r E) (m.r O) (m.r M))) λ_ e a k m=>lJ 3 h k z (λh k=>?_) λh k=>?_
 · refine uc 7 k z λk=>fS h k m z z
 refine uc 2 k z λk=>cg (λa w=>K 38 [(2,pt Y),(3,pt V)] a∧St [] J w [([Y],Bk),([V],Bt)]∧WS fu Q T=some r) ?_ ?_
 · rintro a _ ⟨k,m,h⟩;refine oE h λ_ J h=>gc 3 [bA m 1 A z] k z λk=>sL k m call73 z (dL J (GO (m.r D) (m.r N))) λ_ _ _ Q k m=>oE h λ_ J h=>ul 6 k z λk=>sC k call74 z (HU J (m.v Q 0 z)) λ_ _ hR=>?_;obtain ⟨_,rfl,e,Q,J⟩:=hR;refine ⟨_,z,λa k=>?_⟩;have m:=m.mt 0 z e Q J;refine oE h λ_ Q h=>gl 7 [bA m 1 L z] k z λk=>sL k m call77 z (Xw Q (AE (m.r E) (m.r O) (m.r M))) λ_ _ _ T k m=>oE h λ_ Q h=>gl 1 [lF (Enc.ow_rd T)] k z λk=>sL k m call76 z (ab Q) λ_ _ _ Q k m=>oE h λ_ T h=>cC k m call75 z (YJ T (m.q J 2 z) (m.q Q 0 z)) λ_ e a k m=>lJ 3 h k z (λh k=>?_) λh k=>?_
   · refine uc 7 k z λk=>fS h k m z z
   refine oE h λ_ J h=>gc 7 [bA m 3 L z,bA m 4 A z] k z λk=>cC k m call78 z (an J (AE (m.r E) (m.r O) (m.r M)) (GO (m.r D) (m.r N))) λ_ e a k m=>lJ 9 h k z (λh k=>?_) λh k=>?_
   · refine uc 8 k z λk=>fS h k m z z
   refine oE h λ_ J h=>gc 6 [bA m 3 L z,bA m 4 A z] k z λk=>cC k m call79 z (cT J (AE (m.r E) (m.r O) (m.r M)) (GO (m.r D) (m.r N))) λ_ e a k m=>ul 4 k z λk=>fS h k m z z
 refine oE h λ_ E h=>gc 3 [bA m 0 A z] k z λk=>cC k m call34 z (Yl E (GO (m.r D) (m.r N))) λ_ e a k m=>pN 2 k z λa k=>bT h k 13 z (λh k=>?_) λh k=>?_
 · refine ul 14 k z λk=>fS h k m z z
 refine oE h λ_ E h=>gl 2 [bF m 0 A z] k z λk=>cC k m call71 z (K7 E (m.r D) ⟨72,[],z,call72,λw _ _ r e U hx=>by obtain ⟨_,_,rfl,U⟩:=U; have m:=m.step e; exact gV fu _ U hx⟩) λ_ e a k m=>lJ 3 h k z (λh k=>?_) λh k=>?_
 · refine uc 7 k z λk=>fS h k m z z
 exact uc 2 k z λk=>⟨k.p z,m.sl [1,0] z,h⟩
theorem af {fu O Q L r} (h:RR fu Q L=some r) (A:Te Tryz.prog O):cS 9 [.string (Q),.string (L)] O (.tuple #[I r.1,I r.2]):=by
 refine eg func9 z ntmps9 z λk m=>oE h λ_ L h=>uc 9 k z λk=>cC k m call8 z (X0 L (m.te A)) λ_ e a k m=>lJ 10 h k z (λh k=>?_) λh k=>?_
 · refine uc 9 k z λk=>?_;cases h;exact B4 k z (RV.tmp k z) (RV.tmp k z) ⟨z,m.ext⟩
 refine oE h λ_ L h=>uc 5 k z λk=>sC k call11 z (PA L (m.te A)) λ_ _ D=>?_;obtain ⟨_,_,rfl,e,E,L⟩:=D;refine ⟨_,z,λa k=>?_⟩;have m:=m.nw e L E;obtain ⟨_,_,_,_,_,_,rfl,rfl,M,T,J,_⟩:=E;have m:=m.split2;have m:=m.split2at1;refine pN 3 k z λa k=>AP m k zeroValue37 z z z z z λ_ _ a k m e E=>sT sizeOf37 m 0 E 0 k z (AH z (AH z (AH z (AH z (AH z (AH z (AH (A5 (Enc.ow_rd M)) (AH (A5 (Enc.ow_rd T)) (AH z (AH (A5 (Enc.ow_rd J)) DS)))))))))) λ_ a k e m U=>oE h λ_ E h=>ul 6 k z λk=>sC k call12 z (YY E (m.te A)) λ_ _ D=>?_;obtain ⟨_,_,rfl,e,N,A⟩:=D;refine ⟨_,z,λa k=>?_⟩;have m:=m.nw e A N;obtain ⟨_,_,_,_,rfl,rfl,D,A,_⟩:=N;have m:=m.split2;refine pN 3 k z λa k=>AP m k zeroValue43 z z z z z λ_ _ a k m e E=>sT sizeOf43 m 0 E 0 k z (AH (A5 (Enc.ow_rd D)) (AH (A5 (Enc.ow_rd A)) DS)) λ_ a k e m L=>lJ 10 h k z (λh k=>?_) λh k=>?_
 · refine uc 8 k z λk=>?_;cases h;exact B4 k z (RV.tmp k z) (RV.tmp k z) ⟨z,m.ext⟩
 refine oE h λ_ E h=>gc 6 [bA m 3 U z,bA m 0 L z] k z λk=>cC k m call27 z (aO E (AE (m.q M 4 z) (m.q T 5 z) (m.q J 6 z)) (GO (m.q D 1 z) (m.q A 2 z))) λ_ e a k m=>ul 5 k z λk=>?_;cases h;exact B4 k z (RV.tmp k z) (RV.tmp k z) ⟨z,m.ext⟩
theorem ed {fu A D J L O E T r} (h:SI fu D J=some r) (U:rd A O L D) (M:rd A T E J):cS 13 [.agg L.toArray,.agg E.toArray] A (.bool (r)):=by
 refine eg func13 z ntmps13 z λk m=>?_;obtain ⟨_,_,_,_,_,_,rfl,rfl,Q,N,V⟩:=U;obtain ⟨_,_,_,_,rfl,rfl,A,L⟩:=M;refine uc 2 k z λk=>AW m k z z z z z z λ_ _ a k m e J=>AW m k z z z z z z λ_ _ a k m e D=>oE h λ_ E h=>gl 7 [bA m 1 J z,bA m 0 D z] k z λk=>cC k m call27 z (aO E (AE (m.r Q) (m.r N) (m.r V)) (GO (m.r A) (m.r L))) λ_ e a k m=>ul 5 k z λk=>fS h k m z z
end Go.Proofs.YtdgpkmgnjdpieaaGreatDoor
