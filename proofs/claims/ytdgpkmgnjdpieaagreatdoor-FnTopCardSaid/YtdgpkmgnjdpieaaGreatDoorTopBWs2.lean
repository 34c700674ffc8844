/- FnTop: the walks of .. -/
import Derived.Test.YtdgpkmgnjdpieaaGreatDoorTopBWs1
set_option maxRecDepth 20000
set_option linter.unusedSimpArgs false
set_option linter.unusedVariables false
set_option linter.unnecessarySimpa false
namespace Go.Proofs.YtdgpkmgnjdpieaaGreatDoor
open Go Go.RowKit
open Enc (rd ow)
open Arg (argv)
open Ret (retv)
open Go.Proofs.Tryz
theorem iP {fu D A r} (h:Wz fu A=some r):cS 186 [.agg (Flat.e (A)).toArray] D (.bool (r)):=by
 refine eg func186 z ntmps186 z λk m=>uc 2 k z λk=>AW m k z z z z z z λ_ _ a k m e A=>oE h λ_ D h=>gl 7 [bF m 0 A z] k z λk=>cC k m call169 z (Yc D) λ_ e a k m=>pN 1 k z λa k=>bT h k 6 z (λh k=>?_) λh k=>?_
 · refine oE h λ_ D h=>gl 2 [bF m 0 A z] k z λk=>cC k m call241 z (IV D) λ_ e a k m=>pN 2 k z λa k=>bT h k 11 z (λh k=>?_) λh k=>?_
   · refine oE h λ_ D h=>gl 2 [bF m 0 A z] k z λk=>cC k m call241 z (IV D) λ_ e a k m=>pN 2 k z λa k=>bT h k 16 z (λh k=>?_) λh k=>?_
     · refine oE h λ_ D h=>gl 2 [bF m 0 A z] k z λk=>cC k m call241 z (IV D) λ_ e a k m=>pN 2 k z λa k=>bT h k 21 z (λh k=>?_) λh k=>?_
       · refine oE h λ_ D h=>gl 2 [bF m 0 A z] k z λk=>cC k m call43 z (A4 D) λ_ e a k m=>pN 2 k z λa k=>bT h k 26 z (λh k=>?_) λh k=>?_
         · refine oE h λ_ D h=>gl 2 [bF m 0 A z] k z λk=>cC k m call43 z (A4 D) λ_ e a k m=>pN 2 k z λa k=>bT h k 31 z (λh k=>?_) λh k=>?_
           · refine oE h λ_ D h=>gl 2 [bF m 0 A z] k z λk=>cC k m call43 z (A4 D) λ_ e a k m=>ul 5 k z λk=>fS h k m z z
           refine ul 8 k z λk=>fS h k m z z
         refine ul 13 k z λk=>fS h k m z z
       refine ul 18 k z λk=>fS h k m z z
     refine ul 23 k z λk=>fS h k m z z
   refine ul 28 k z λk=>fS h k m z z
 refine ul 33 k z λk=>fS h k m z z
theorem d5 {fu J E A D r} (h:SJ fu E=some r) (N:rd J D A E):cS 113 [.agg A.toArray] J (.bool (r)):=by
 refine eg func113 z ntmps113 z λk m=>?_;obtain ⟨_,_,_,_,_,_,rfl,rfl,M,Q,L⟩:=N;refine uc 2 k z λk=>AW m k z z z z z z λD O a k m e A=>ul 3 k z λk=>cg (λa w=>K 111 [(1,pt D)] a∧St [] J w [([D],O)]∧Tm fu E=some r) ?_ ?_
 · rintro a _ ⟨k,m,h⟩;refine uc 7 k z λk=>lG (λn a w=>∃ N,K 111 [(1,pt D),(3,I N)] a∧St [] J w [([D],O)]∧EZ fu E n N=some r) ?_ fu ?_
   · rintro T a _ ⟨N,k,m,h⟩;refine gJ 10 [bF m 0 A z,lF M] h k z (λh k=>?_) λh k=>?_
     · refine uc 2 k z λk=>cg (λa w=>K 111 [(1,pt D),(3,I N)] a∧St [] J w [([D],O)]∧TH fu (EZ fu E T) N=some r) ?_ ?_
       · rintro a _ ⟨k,m,h⟩;exact uc 6 k z λk=>⟨_,k.p z,m.f z,h⟩
       refine o2 h λ_ N _ T h=>gc 9 [bF m 0 A z,iF M N,eF (m.r M) N 0] k z λk=>cC k m call43 z (A4 T) λ_ e a k m=>pN 2 k z λa k=>bT h k 63 z (λh k=>?_) λh k=>?_
       · refine ul 23 k z λk=>fS h k m z z
       refine o2 h λ_ _ _ T h=>gl 6 [bF m 0 A z,iF M N,eF (m.r M) N 1] k z λk=>cC k m call43 z (A4 T) λ_ e a k m=>lJ 4 h k z (λh k=>?_) λh k=>?_
       · refine uc 11 k z λk=>fS h k m z z
       exact uc 3 k z λk=>⟨k.p z,m.f z,h⟩
     refine uc 12 k z λk=>lG (λn a w=>∃ N,K 111 [(1,pt D),(4,I N)] a∧St [] J w [([D],O)]∧E3 fu E n N=some r) ?_ fu ?_
     · rintro _ a _ ⟨N,k,m,h⟩;refine gJ 10 [bF m 0 A z,lF Q] h k z (λh k=>?_) λh k=>?_
       · refine o2 h λ_ N _ T h=>gc 11 [bF m 0 A z,iF Q N,eA (m.r Q) N] k z λk=>cC k m call185 z (jj T) λ_ e a k m=>lJ 3 h k z (λh k=>?_) λh k=>?_
         · refine uc 11 k z λk=>fS h k m z z
         exact uc 9 k z λk=>⟨_,k.p z,m.f z,h⟩
       refine uc 17 k z λk=>lG (λn a w=>∃ T N,K 111 [(1,pt D),(5,I T),(6,I N)] a∧St [] J w [([D],O)]∧E2 fu E n T N=some r) ?_ fu ?_
       · rintro _ a _ ⟨T,N,k,m,h⟩;refine gJ 10 [bF m 0 A z,lF L] h k z (λh k=>?_) λh k=>?_
         · refine o2 h λ_ D _ E h=>gc 12 [bF m 0 A z,iF L D,eA (m.r L) D] k z λk=>cC k m call186 z (iP E) λ_ e a k m=>lJ 3 h k z (λh k=>?_) λh k=>?_
           · refine uc 12 k z λk=>fS h k m z z
           exact oE h λ_ _ h=>gc 21 [bF m 0 A z,iF L D,eF (m.r L) D 6] k z λk=>⟨_,_,k.p z,m.f z,h⟩
         refine uc 13 k z λk=>fS h k m z z
       exact ⟨_,_,k.p z,m.f z,h⟩
     exact ⟨_,k.p z,m.f z,h⟩
   exact ⟨_,k.p z,m.f z,h⟩
 refine oE h λ_ D h=>gc 4 [bF m 0 A z] k z λk=>cC k m call43 z (A4 D) λ_ e a k m=>pN 2 k z λa k=>bT h k 11 z (λh k=>?_) λh k=>?_
 · refine ul 46 k z λk=>fS h k m z z
 refine oE h λ_ D h=>gl 2 [bA m 0 A z] k z λk=>cC k m call184 z (SC D) λ_ e a k m=>pN 3 k z λa k=>bT h k 17 z (λh k=>?_) λh k=>?_
 · refine ul 40 k z λk=>fS h k m z z
 refine oE h λ_ D h=>gl 2 [bF m 0 A z] k z λk=>cC k m call43 z (A4 D) λ_ e a k m=>pN 3 k z λa k=>bT h k 23 z (λh k=>?_) λh k=>?_
 · refine ul 34 k z λk=>fS h k m z z
 refine gl 6 [bF m 0 A z,lF M] k z λk=>bT h k 29 z (λh k=>?_) λh k=>?_
 · refine ul 28 k z λk=>fS h k m z z
 refine oE h λ_ D h=>gl 3 [bF m 0 A z,lF Q] k z λk=>cC k m call43 z (A4 D) λ_ e a k m=>pN 3 k z λa k=>bT h k 36 z (λh k=>?_) λh k=>?_
 · refine ul 21 k z λk=>fS h k m z z
 refine oE h λ_ D h=>gl 2 [bF m 0 A z] k z λk=>cC k m call169 z (Yc D) λ_ e a k m=>pN 3 k z λa k=>bT h k 42 z (λh k=>?_) λh k=>?_
 · refine ul 15 k z λk=>fS h k m z z
 refine hJ 7 [bF m 0 A z,lF L] h k z (λh k=>?_) λh k=>?_
 · refine uc 7 k z λk=>fS h k m z z
 exact uc 2 k z λk=>⟨k.p z,m.f z,h⟩
theorem MM {fu L J A D r} (h:HO fu J=some r) (E:rd L D A J):cS 98 [.agg A.toArray] L (.tuple #[.agg (Flat.e r.1).toArray,.bool (r.2)]):=by
 refine eg func98 z ntmps98 z λk m=>?_;obtain ⟨_,_,_,_,_,_,rfl,rfl,_,D,_⟩:=E;refine uc 2 k z λk=>AW m k z z z z z z λO T a k m e E=>AP m k zeroValue102 z z z z z λM Q a k m e N=>ul 10 k z λk=>lG (λn a w=>∃ A,K 27 [(1,pt O),(2,pt M),(4,I A)] a∧St [] L w [([O],T),([M],Q)]∧IP fu J n A=some r) ?_ fu ?_
 · rintro _ a _ ⟨A,k,m,h⟩;refine gJ 10 [bF m 0 E z,lF D] h k z (λh k=>?_) λh k=>?_
   · refine uc 5 k z λk=>dI [] m z λA m s=>oE h λ_ J h=>dr [2,0,1,3,4,5,6,7,8] 9 [bF A 0 E z,iF D J,eF (A.r D) J 0,bF A 0 E z] k z s λk=>dD ((AF ?_));refine cJ h k z (λh=>?_) λh=>?_
     · refine oE h λ_ _ h=>gc 7 [bF m 0 E z,iF D J,eA (m.r D) J] k z λk=>sT sizeOf102 m 1 N 0 k z z λ_ a k e m A=>ul 9 k z λk=>?_;cases h;exact B4 k z (RV.cA k z YW (A.at (m.a 1 z) 0 7 z z z) z) (RV.tmp k z) ⟨z,m.ext⟩
     exact uc 9 k z λk=>⟨_,k.p z,m.f z,h⟩
   refine uc 7 k z λk=>sv k z (AN Xc k (cs:=#[I 0,I 0,I 0,I 0,I 0,I 0,I 0]) (ps:=[]) z z AQ) λa k=>sT sizeOf102 m 1 N 0 k z z λ_ a k e m A=>ul 4 k z λk=>?_;cases h;exact B4 k z (RV.cA k z YW (A.at (m.a 1 z) 0 7 z z z) z) (RV.tmp k z) ⟨z,m.ext⟩
 exact ⟨_,k.p z,m.sl [1,0] z,h⟩
theorem ic {fu L J A D r} (h:US fu J=some r) (E:rd L D A J):cS 114 [.agg A.toArray] L (.bool (r)):=by
 refine eg func114 z ntmps114 z λk m=>?_;obtain ⟨_,_,_,_,_,_,rfl,rfl,Q,N,M⟩:=E;refine uc 2 k z λk=>AW m k z z z z z z λE O a k m e D=>ul 10 k z λk=>lG (λn a w=>∃ A,K 102 [(1,pt E),(3,I A)] a∧St [] L w [([E],O)]∧B7 fu J n A=some r) ?_ fu ?_
 · rintro U a _ ⟨A,k,m,h⟩;refine gJ 10 [bF m 0 D z,lF N] h k z (λh k=>?_) λh k=>?_
   · refine uc 10 k z λk=>lG (λn a w=>∃ T,K 102 [(1,pt E),(3,I A),(4,I T)] a∧St [] L w [([E],O)]∧FN fu (B7 fu J U) J A n T=some r) ?_ fu ?_
     · rintro _ a _ ⟨T,k,m,h⟩;refine uJ 8 h k z (λh k=>?_) λh k=>?_
       · refine uc 5 k z λk=>dI [] m z λA m s=>o2 h λ_ U _ T h=>dr [2,8,0,1,3,4,5,6,7,9,10,11,12] 13 [bF A 0 D z,iF N U,eF (A.r N) U 0,bF A 0 D z,iF N T,eF (A.r N) T 0] k z s λk=>dD ((AF ?_));refine cJ h k z (λh=>?_) λh=>?_
         · refine uc 15 k z λk=>fS h k m z z
         exact uc 9 k z λk=>⟨_,k.p z,m.f z,h⟩
       exact uc 12 k z λk=>⟨_,k.p z,m.f z,h⟩
     exact ⟨_,k.p z,m.f z,h⟩
   refine uc 12 k z λk=>lG (λn a w=>∃ T,K 102 [(1,pt E),(5,I T)] a∧St [] L w [([E],O)]∧B0 fu J n T=some r) ?_ fu ?_
   · rintro V a _ ⟨T,k,m,h⟩;refine gJ 10 [bF m 0 D z,lF M] h k z (λh k=>?_) λh k=>?_
     · refine uc 6 k z λk=>dI [] m z λA m s=>oE h λ_ U h=>dr [2,0,1,3,4,5,6,7,8] 9 [bF A 0 D z,iF M U,eF (A.r M) U 5,bF A 0 D z] k z s λk=>dD ((AF ?_));refine cJ h k z (λh=>?_) λh=>?_
       · refine uc 12 k z λk=>fS h k m z z
       refine uc 8 k z λk=>lG (λn a w=>∃ U,K 102 [(1,pt E),(5,I T),(6,I U)] a∧St [] L w [([E],O)]∧FT fu (B0 fu J V) J T n U=some r) ?_ fu ?_
       · rintro _ a _ ⟨U,k,m,h⟩;refine uJ 8 h k z (λh k=>?_) λh k=>?_
         · refine uc 5 k z λk=>dI [] m z λA m s=>o2 h λ_ U _ T h=>dr [2,8,0,1,3,4,5,6,7,9,10,11,12] 13 [bF A 0 D z,iF M U,eF (A.r M) U 0,bF A 0 D z,iF M T,eF (A.r M) T 0] k z s λk=>dD ((AF ?_));refine cJ h k z (λh=>?_) λh=>?_
           · refine uc 15 k z λk=>fS h k m z z
           exact uc 9 k z λk=>⟨_,k.p z,m.f z,h⟩
         exact uc 12 k z λk=>⟨_,k.p z,m.f z,h⟩
       exact ⟨_,k.p z,m.f z,h⟩
     refine uc 12 k z λk=>lG (λn a w=>∃ T,K 102 [(1,pt E),(7,I T)] a∧St [] L w [([E],O)]∧EN fu J n T=some r) ?_ fu ?_
     · rintro U a _ ⟨T,k,m,h⟩;refine gJ 10 [bF m 0 D z,lF Q] h k z (λh k=>?_) λh k=>?_
       · refine uc 2 k z λk=>cg (λa w=>K 102 [(1,pt E),(7,I T)] a∧St [] L w [([E],O)]∧T3 fu (EN fu J U) T=some r) ?_ ?_
         · rintro a _ ⟨k,m,h⟩;exact uc 6 k z λk=>⟨_,k.p z,m.f z,h⟩
         refine uc 2 k z λk=>dI [] m z λA m s=>oE h λ_ E h=>dr [2,0,1,3,4,5,6,7,8,9] 10 [bF A 0 D z,iF Q E,eF (A.r Q) E 0,bF A 0 D z] k z s λk=>bT h k 85 z (λh k=>?_) λh k=>?_
         · refine dM [10,11,12,13,14,15,16,17,18,19] 10 z k z s λa k=>dD ?_;refine (AF ?_);refine uc 12 k z λk=>fS h k m z z
         refine oE h λ_ _ h=>dr [12,10,11,13,14,15,16,17,18,19] 10 [bF A 0 D z,iF Q E,eF (A.r Q) E 1,bF A 0 D z] k z s λk=>dD ?_;refine (AF ?_);refine cJ h k z (λh=>?_) λh=>?_
         · refine uc 11 k z λk=>fS h k m z z
         exact uc 3 k z λk=>⟨k.p z,m.f z,h⟩
       refine oE h λ_ A h=>gc 8 [bA m 0 D z] k z λk=>cC k m call98 z (MM A (AE (m.r Q) (m.r N) (m.r M))) λ_ e a k m=>pN 3 k z λa k=>AP m k zeroValue102 z z z z z λ_ _ a k m e A=>sT sizeOf102 m 0 A 0 k z z λ_ a k e m _=>ul 10 k z λk=>fS h k m z z
     exact ⟨_,k.p z,m.f z,h⟩
   exact ⟨_,k.p z,m.f z,h⟩
 exact ⟨_,k.p z,m.f z,h⟩
theorem K1 {fu M N D A L J r} (h:GQ fu N D A=some r) (E:rd M J [L] N):cS 187 [L,I D,I A] M (.bool (r)):=by
 refine eg func187 z ntmps187 z λk m=>uc 12 k z λk=>lG (λn a w=>∃ J,K 30 [(0,L),(1,I D),(2,I A),(7,I J)] a∧St [] M w []∧IB fu N D A n J=some r) ?_ fu ?_
 · rintro O a _ ⟨J,k,m,h⟩;refine gJ 9 [lF E] h k z (λh k=>?_) λh k=>?_
   · refine uc 2 k z λk=>cg (λa w=>K 30 [(0,L),(1,I D),(2,I A),(7,I J)] a∧St [] M w []∧PH fu (IB fu N D A O) J=some r) ?_ ?_
     · rintro a _ ⟨k,m,h⟩;exact uc 6 k z λk=>⟨_,k.p z,m.f z,h⟩
     refine oE h λ_ A h=>gc 11 [iF E A,eF (m.r E) A 0] k z λk=>bT h k 21 z (λh k=>?_) λh k=>?_
     · refine oE h λ_ _ h=>hJ 10 [iF E A,eF (m.r E) A 1] h k z (λh k=>?_) λh k=>?_
       · refine uc 11 k z λk=>fS h k m z z
       exact uc 3 k z λk=>⟨k.p z,m.f z,h⟩
     exact ul 14 k z λk=>⟨k.p z,m.f z,h⟩
   refine uc 11 k z λk=>fS h k m z z
 exact ⟨_,k.p z,m.f z,h⟩
theorem gh {fu N D A J E r} (h:TW fu D A=some r) (M:rd N E [J] D):cS 115 [J,I A] N (.bool (r)):=by
 refine eg func115 z ntmps115 z λk m=>oE h λ_ E h=>uc 9 k z λk=>cC k m call43 z (A4 E) λ_ e a k m=>lJ 3 h k z (λh k=>?_) λh k=>?_
 · refine uc 7 k z λk=>fS h k m z z
 refine uc 9 k z λk=>lG (λn a w=>∃ E,K 41 [(0,J),(1,I A),(5,I E)] a∧St [] N w []∧ER fu D A n E=some r) ?_ fu ?_
 · rintro O a _ ⟨E,k,m,h⟩;refine uJ 8 h k z (λh k=>?_) λh k=>?_
   · refine uc 10 k z λk=>lG (λn a w=>∃ L,K 41 [(0,J),(1,I A),(5,I E),(6,I L)] a∧St [] N w []∧FV fu (ER fu D A O) D A E n L=some r) ?_ fu ?_
     · rintro Q a _ ⟨L,k,m,h⟩;refine uJ 8 h k z (λh k=>?_) λh k=>?_
       · refine uc 2 k z λk=>cg (λa w=>K 41 [(0,J),(1,I A),(5,I E),(6,I L)] a∧St [] N w []∧Nw fu (FV fu (ER fu D A O) D A E Q) L=some r) ?_ ?_
         · rintro a _ ⟨k,m,h⟩;exact uc 6 k z λk=>⟨_,k.p z,m.f z,h⟩
         refine uc 7 k z λk=>bT h k 23 z (λh k=>?_) λh k=>?_
         · refine pN 3 k z λa k=>oE h λ_ A h=>cC k m call187 z (K1 A (m.r M)) λ_ e a k m=>pN 3 k z λa k=>bT h k 30 z (λh k=>?_) λh k=>?_
           · refine ul 28 k z λk=>fS h k m z z
           refine pN 3 k z λa k=>oE h λ_ A h=>cC k m call187 z (K1 A (m.r M)) λ_ e a k m=>pN 3 k z λa k=>oE h λ_ A h=>cC k m call187 z (K1 A (m.r M)) λ_ e a k m=>sv k z (sJ k underlying4 z z z) λa k=>lJ 3 h k z (λh k=>?_) λh k=>?_
           · refine uc 15 k z λk=>fS h k m z z
           exact uc 3 k z λk=>⟨k.p z,m.f z,h⟩
         refine pN 10 k z λa k=>oE h λ_ A h=>cC k m call187 z (K1 A (m.r M)) λ_ e a k m=>pN 3 k z λa k=>oE h λ_ A h=>cC k m call187 z (K1 A (m.r M)) λ_ e a k m=>sv k z (sJ k underlying4 z z z) λa k=>lJ 3 h k z (λh k=>?_) λh k=>?_
         · refine uc 15 k z λk=>fS h k m z z
         exact uc 3 k z λk=>⟨k.p z,m.f z,h⟩
       exact uc 12 k z λk=>⟨_,k.p z,m.f z,h⟩
     exact ⟨_,k.p z,m.f z,h⟩
   refine uc 11 k z λk=>fS h k m z z
 exact ⟨_,k.p z,m.f z,h⟩
theorem Y2 {fu M n1 r} (h:MD fu n1=some r):cL 192 [I n1] M r:=by
 refine eg func192 z ntmps192 z λk m=>uc 7 k z λk=>sB AV m k z (by exact fN) λ_ _ _ a k m e A=>?_;have N:=AO A ([]:List Int) z z z;refine ul 10 k z λk=>lG (λn a w=>∃ D J E L A,K 16 [(0,I n1),(3,J),(4,I A)] a∧St [] M w [(E,L)]∧ow L E [J] D∧H9 fu n1 n D A=some r) ?_ fu ?_
 · rintro _ a _ ⟨D,J,E,L,A,k,m,D,h⟩;refine uJ 8 h k z (λh k=>?_) λh k=>?_
   · refine uc 7 k z λk=>sB AV m k z (by exact fC z fN) λ_ _ _ a k m e E=>?_;have J:=AO E ([A]:List Int) z z z;exact oE h λ_ A h=>BX A AV z m 1 D (News.rd (m.q J 0 z)) z z k z z z z z z z λ_ _ _ a k e m A=>ul 10 k z λk=>⟨_,_,_,_,_,k.p z,m.sl [1] z,A,h⟩
   exact uc 12 k z λk=>fL h k m D 0 z z
 exact ⟨_,_,_,_,_,k.p z,m.f z,N,h⟩
theorem cK (fu:Nat):∀ (N:Nat) {A:World} (M:List Int) (T:List Int) (L:Bool) {O:Value} {F3:List Nat} (J:rd A F3 [O] M) {Q:Value} {V:List Nat} (E:rd A V [Q] T) {r:(List Int)} (h:Le fu N M T L=some r),Calls Tryz.prog 191 #[O,Q,.bool (L)] A λe w=>∃ (Y:Value) (Z:List Nat),e=.returned (Y)∧Ext [] A w∧ow w Z [Y] r∧(∀ b∈Z,A.heap.size≤b):=by
 intro N
 induction N with
 | zero =>
   intros
   rename_i h
   exact nS h
 | succ N ih =>
 intro A M T L O F3 J Q V E r h;refine eg (vs:=[_,_,_]) func191 z ntmps191 z λk m=>gJ 13 [lF E] h k z (λh k=>?_) λh k=>?_
 · refine uc 2 k z λk=>sB AV m k z (by exact fN) λ_ _ _ a k m e N=>?_;have Q:=AO N ([]:List Int) z z z;exact pN 1 k z λa k=>oE h λ_ N h=>BX N AV z m 0 Q (News.rd (m.r E)) z z k z z z z z z z λ_ _ _ a k e m N=>ul 5 k z λk=>fL h k m N 0 z z
 refine oE h λ_ N h=>gc 15 [lF E] k z λk=>am E N k FY z z z z z z λ_ a k Q=>pN 1 k z λa k=>oE h λAw N h=>sC k call191 z (ih _ _ _ (m.r J) (m.r Q) N) λ_ Bk U=>?_;obtain ⟨Bl,Bd,rfl,e,D,N⟩:=U;refine ⟨_,z,λa k=>?_⟩;have m:=m.nw e N D;refine oE h λ_ N h=>ul 8 k z λk=>rg E N k FY z z z z z z λ_ a k E=>pN 1 k z λa k=>oE h λBc N h=>sC k call191 z (ih _ _ _ (m.r J) (m.r E) N) λ_ Bg U=>?_;obtain ⟨Bo,Be,rfl,e,E,N⟩:=U;refine ⟨_,z,λa k=>?_⟩;have m:=m.nw e N E;refine ul 5 k z λk=>sB AV m k z (by exact fN) λ_ _ _ a k m e N=>?_;have Em:=AO N ([]:List Int) z z z;refine ul 15 k z λk=>lG (λn a w=>∃ Z U Y V T Q,K 132 [(0,O),(2,.bool (L)),(8,Bl),(9,Bo),(10,U),(11,I T),(12,I Q)] a∧St [] A w [(Bd,Bk),(Be,Bg),(Y,V)]∧ow V Y [U] Z∧DM fu M L Aw Bc n Z T Q=some r) ?_ fu ?_
 · rintro Fa a _ ⟨Z,U,Y,V,T,Q,k,m,N,h⟩;refine cg (λa w=>K 132 [(0,O),(2,.bool (L)),(8,Bl),(9,Bo),(10,U),(11,I T),(12,I Q)] a∧St [] A w [(Bd,Bk),(Be,Bg),(Y,V)]∧KS fu (DM fu M L Aw Bc Fa) M L Aw Bc Z T Q=some r) ?_ ?_
   · rintro a _ ⟨k,m,h⟩;refine gJ 11 [lF (Enc.ow_rd E)] h k z (λh k=>?_) λh k=>?_
     · refine oE h λL A h=>gc 7 [iF (Enc.ow_rd D) A,eF (m.q D 0 z) A 0] k z λk=>sB AV m k z (by exact fC z fN) λ_ _ _ a k m e M=>?_;have A:=AO M ([L]:List Int) z z z;exact oE h λ_ L h=>BX L AV z m 3 N (News.rd (m.q A 0 z)) z z k z z z z z z z λ_ _ _ a k e m A=>ul 11 k z λk=>⟨_,_,_,_,_,_,k.p z,m.sl [1,2,3] z,A,h⟩
     refine gJ 9 [lF (Enc.ow_rd D)] h k z (λh k=>?_) λh k=>?_
     · refine oE h λL A h=>gc 7 [iF (Enc.ow_rd E) A,eF (m.q E 1 z) A 0] k z λk=>sB AV m k z (by exact fC z fN) λ_ _ _ a k m e A=>?_;have M:=AO A ([L]:List Int) z z z;exact oE h λ_ A h=>BX A AV z m 3 N (News.rd (m.q M 0 z)) z z k z z z z z z z λ_ _ _ a k e m A=>ul 11 k z λk=>⟨_,_,_,_,_,_,k.p z,m.sl [1,2,3] z,A,h⟩
     refine uc 1 k z λk=>dI [] m z λA m s=>o2 h λU M _ O h=>o2 h λT L _ Q h=>dr [0,1,2,7,8,9,3,4,5,6,10,11,12,13,14,15] 16 [iF (Enc.ow_rd E) M,eF (A.q E 1 z) M 0,iF J O,eF (A.r J) O 0,iF (Enc.ow_rd D) L,eF (A.q D 0 z) L 0,iF J Q,eF (A.r J) Q 0] k z s λk=>bT h k 98 z (λh k=>?_) λh k=>?_
     · refine dM [16,17,18,19] 4 z k z s λa k=>bT h k 102 z (λh k=>?_) λh k=>?_
       · refine dM [20,21,22,23,24,25,26,27,28,29,30,31,32,33,34,35,36,37,38,39] 20 z k z s λa k=>dD ?_;refine (AF ?_);refine oE h λ_ Gc h=>gc 8 [iF (Enc.ow_rd E) M,eF (m.q E 1 z) M 0] k z λk=>sB AV m k z (by exact fC z fN) λ_ _ _ a k m e Y=>?_;have V:=AO Y ([U]:List Int) z z z;exact oE h λ_ Y h=>BX Y AV z m 3 N (News.rd (m.q V 0 z)) z z k z z z z z z z λ_ _ _ a k e m V=>ul 11 k z λk=>⟨_,_,_,_,_,_,k.p z,m.sl [1,2,3] z,V,h⟩
       refine o2 h λ_ _ _ _ h=>o2 h λ_ _ _ _ h=>dr [20,21,22,27,28,29,23,24,25,26,30,31,32,33,34,35] 16 [iF (Enc.ow_rd E) M,eF (A.q E 1 z) M 0,iF J O,eF (A.r J) O 0,iF (Enc.ow_rd D) L,eF (A.q D 0 z) L 0,iF J Q,eF (A.r J) Q 0] k z s λk=>bT h k 118 z (λh k=>?_) λh k=>?_
       · refine dM [36,37,38,39] 4 z k z s λa k=>dD ?_;refine (AF ?_);refine cJ h k z (λh=>?_) λh=>?_
         · refine oE h λ_ _ h=>gc 7 [iF (Enc.ow_rd E) M,eF (m.q E 1 z) M 0] k z λk=>sB AV m k z (by exact fC z fN) λ_ _ _ a k m e V=>?_;have Y:=AO V ([U]:List Int) z z z;exact oE h λ_ V h=>BX V AV z m 3 N (News.rd (m.q Y 0 z)) z z k z z z z z z z λ_ _ _ a k e m V=>ul 11 k z λk=>⟨_,_,_,_,_,_,k.p z,m.sl [1,2,3] z,V,h⟩
         refine oE h λ_ _ h=>gc 7 [iF (Enc.ow_rd D) L,eF (m.q D 0 z) L 0] k z λk=>sB AV m k z (by exact fC z fN) λ_ _ _ a k m e V=>?_;have Y:=AO V ([T]:List Int) z z z;exact oE h λ_ V h=>BX V AV z m 3 N (News.rd (m.q Y 0 z)) z z k z z z z z z z λ_ _ _ a k e m V=>ul 11 k z λk=>⟨_,_,_,_,_,_,k.p z,m.sl [1,2,3] z,V,h⟩
       refine dM [36,37,38,39] 4 z k z s λa k=>dD ?_;refine (AF ?_);refine oE h λ_ _ h=>gc 8 [iF (Enc.ow_rd D) L,eF (m.q D 0 z) L 0] k z λk=>sB AV m k z (by exact fC z fN) λ_ _ _ a k m e V=>?_;have Y:=AO V ([T]:List Int) z z z;exact oE h λ_ V h=>BX V AV z m 3 N (News.rd (m.q Y 0 z)) z z k z z z z z z z λ_ _ _ a k e m V=>ul 11 k z λk=>⟨_,_,_,_,_,_,k.p z,m.sl [1,2,3] z,V,h⟩
     refine o2 h λ_ _ _ _ h=>o2 h λ_ _ _ _ h=>dr [16,17,18,19,20,21,22,27,28,29,23,24,25,26,30,31,32,33,34,35] 20 [iF (Enc.ow_rd E) M,eF (A.q E 1 z) M 0,iF J O,eF (A.r J) O 0,iF (Enc.ow_rd D) L,eF (A.q D 0 z) L 0,iF J Q,eF (A.r J) Q 0] k z s λk=>bT h k 118 z (λh k=>?_) λh k=>?_
     · refine dM [36,37,38,39] 4 z k z s λa k=>dD ?_;refine (AF ?_);refine cJ h k z (λh=>?_) λh=>?_
       · refine oE h λ_ _ h=>gc 7 [iF (Enc.ow_rd E) M,eF (m.q E 1 z) M 0] k z λk=>sB AV m k z (by exact fC z fN) λ_ _ _ a k m e A=>?_;have J:=AO A ([U]:List Int) z z z;exact oE h λ_ A h=>BX A AV z m 3 N (News.rd (m.q J 0 z)) z z k z z z z z z z λ_ Ez _ a k e m A=>ul 11 k z λk=>⟨_,_,_,_,_,_,k.p z,m.sl [1,2,3] z,A,h⟩
       refine oE h λ_ _ h=>gc 7 [iF (Enc.ow_rd D) L,eF (m.q D 0 z) L 0] k z λk=>sB AV m k z (by exact fC z fN) λ_ _ _ a k m e A=>?_;have J:=AO A ([T]:List Int) z z z;exact oE h λ_ A h=>BX A AV z m 3 N (News.rd (m.q J 0 z)) z z k z z z z z z z λ_ _ _ a k e m A=>ul 11 k z λk=>⟨_,_,_,_,_,_,k.p z,m.sl [1,2,3] z,A,h⟩
     refine dM [36,37,38,39] 4 z k z s λa k=>dD ?_;refine (AF ?_);refine oE h λ_ _ h=>gc 8 [iF (Enc.ow_rd D) L,eF (m.q D 0 z) L 0] k z λk=>sB AV m k z (by exact fC z fN) λ_ _ _ a k m e A=>?_;have J:=AO A ([T]:List Int) z z z;exact oE h λ_ A h=>BX A AV z m 3 N (News.rd (m.q J 0 z)) z z k z z z z z z z λ_ _ _ a k e m A=>ul 11 k z λk=>⟨_,_,_,_,_,_,k.p z,m.sl [1,2,3] z,A,h⟩
   refine gc 7 [lF (Enc.ow_rd D)] k z λk=>bT h k 39 z (λh k=>?_) λh k=>?_
   · exact ul 10 k z λk=>⟨k.p z,m.f z,h⟩
   refine hJ 7 [lF (Enc.ow_rd E)] h k z (λh k=>?_) λh k=>?_
   · exact uc 2 k z λk=>⟨k.p z,m.f z,h⟩
   exact uc 12 k z λk=>fL h k m N 2 z z
 exact ⟨_,_,_,_,_,_,k.p z,m.sl [2,1,0] z,Em,h⟩
theorem Zo {fu:Nat} {A:World} {E:List Int} {J:List Int} {D:Bool} {L:Value} {N:List Nat} {M:Value} {O:List Nat} {r:(List Int)} (h:OY fu E J D=some r) (Q:rd A N [L] E) (N:rd A O [M] J):Calls Tryz.prog 191 #[L,M,.bool (D)] A λe w=>∃ (L:Value) (M:List Nat),e=.returned (L)∧Ext [] A w∧ow w M [L] r∧(∀ b∈M,A.heap.size≤b) :=
  cK fu fu E J D Q N h
theorem ai {fu D E A L r} (h:RO fu E=some r) (J:rd D L [A] E):cL 120 [A] D r:=by
 refine eg func120 z ntmps120 z λk m=>oE h λ_ A h=>gc 10 [lF J] k z λk=>sL k m call192 z (Y2 A) λ_ _ _ A k m=>oE h λ_ D h=>sC k call191 z (Zo D (m.r J) (m.q A 0 z)) λ_ _ M=>?_;obtain ⟨_,_,rfl,e,A,D⟩:=M;refine ⟨_,z,λa k=>?_⟩;have m:=m.nw e D A;exact ul 4 k z λk=>fL h k m A 0 z z
theorem Za {fu D J A E r} (h:Oh fu J A E=some r):cL 168 [I J,I A,I E] D r:=by
 refine eg func168 z ntmps168 z λk m=>uc 10 k z λk=>sB AV m k z (by exact fC z (fC z (fC z fN))) λ_ _ _ a k m e L=>?_;have D:=AO L ([J,A,E]:List Int) z z z;refine oE h λ_ A h=>ul 6 k z λk=>sL k m call120 z (ai A (m.q D 0 z)) λ_ _ _ E k m=>ul 4 k z λk=>dI [] m z λA m s=>o2 h λ_ J V O h=>o2 h λ_ M U Q h=>o2 h λ_ N T L h=>dr [0,1,6,7,12,13,2,3,4,5,8,9,10,11,14,15,16,17] 18 [iF (Enc.ow_rd E) J,eF (A.q E 0 z) J 0,iF (Enc.ow_rd D) O,eF (A.q D 1 z) O 0,iF (Enc.ow_rd E) M,eF (A.q E 0 z) M 0,iF (Enc.ow_rd D) Q,eF (A.q D 1 z) Q 0,iF (Enc.ow_rd E) N,eF (A.q E 0 z) N 0,iF (Enc.ow_rd D) L,eF (A.q D 1 z) L 0] k z s λk=>dG 18 z (BD AV m k z z z z z z z A1 z (by exact fC z (fC z (fC z fN))) λ_ _ _ a k m e A D=>?_);have E:=s.lo D;have D:=AO A ([V,U,T]:List Int) z z z;refine ns s e λs=>dM [19] 1 z k z s λa k=>dD ?_;refine (AF ?_);refine wp_ret ?_;exact fL h k m D 0 z z
theorem Zx {fu E A D r} (h:TN fu A D=some r):cS 99 [.agg (Flat.e (A)).toArray,.agg (Flat.e (D)).toArray] E (.bool (r)):=by
 refine eg func99 z ntmps99 z λk m=>uc 2 k z λk=>AW m k z z z z z z λ_ _ a k m e J=>AW m k z z z z z z λ_ _ a k m e L=>oE h λ_ A h=>gl 11 [bF m 1 J z,bF m 1 J z,bF m 1 J z] k z λk=>sL k m call168 z (Za A) λ_ _ _ E k m=>oE h λ_ A h=>gl 11 [bF m 1 L z,bF m 1 L z,bF m 1 L z] k z λk=>sL k m call168 z (Za A) λ_ _ _ D k m=>ul 4 k z λk=>dI [] m z λA m s=>o2 h λ_ N _ M h=>dr [0,3,1,2,4,5,6,7] 8 [iF (Enc.ow_rd E) N,eF (A.q E 1 z) N 0,iF (Enc.ow_rd D) M,eF (A.q D 0 z) M 0] k z s λk=>bT h k 28 z (λh k=>?_) λh k=>?_
 · refine o2 h λ_ N _ M h=>dr [8,11,9,10,12,13,14,15,16] 9 [iF (Enc.ow_rd E) N,eF (A.q E 1 z) N 0,iF (Enc.ow_rd D) M,eF (A.q D 0 z) M 0] k z s λk=>bT h k 37 z (λh k=>?_) λh k=>?_
   · refine o2 h λ_ N _ M h=>dr [17,20,18,19,21,22,23,24,25] 9 [iF (Enc.ow_rd E) N,eF (A.q E 1 z) N 0,iF (Enc.ow_rd D) M,eF (A.q D 0 z) M 0] k z s λk=>bT h k 46 z (λh k=>?_) λh k=>?_
     · refine dr [26,27,28,29,30,31,32] 7 [bF A 3 J z,bF A 2 L z] k z s λk=>dD ?_;refine (AF ?_);refine wp_ret (fS h k m z z)
     refine dM [26,27,28,29,30,31,32] 7 z k z s λa k=>dD ?_;refine (AF ?_);refine wp_ret (fS h k m z z)
   refine dM [17,18,19,20,21,22,23,24,25,26,27,28,29,30,31,32] 16 z k z s λa k=>dD ?_;refine (AF ?_);refine wp_ret (fS h k m z z)
 refine dM [8,9,10,11,12,13,14,15,16,17,18,19,20,21,22,23,24,25,26,27,28,29,30,31,32] 25 z k z s λa k=>dD ?_;refine (AF ?_);refine wp_ret (fS h k m z z)
theorem GW {fu N M A D r} (h:EK fu M=some r) (E:rd N D A M):cS 54 [.agg A.toArray] N (I r):=by
 refine eg func54 z ntmps54 z λk m=>?_;obtain ⟨_,_,_,_,_,_,rfl,rfl,D,L,J⟩:=E;refine uc 2 k z λk=>AW m k z z z z z z λE O a k m e A=>oE h λ_ Q h=>gl 7 [bA m 0 A z] k z λk=>cC k m call113 z (d5 Q (AE (m.r D) (m.r L) (m.r J))) λ_ e a k m=>lJ 3 h k z (λh k=>?_) λh k=>?_
 · refine uc 7 k z λk=>fS h k m z z
 refine oE h λ_ Q h=>gc 6 [bA m 0 A z] k z λk=>cC k m call114 z (ic Q (AE (m.r D) (m.r L) (m.r J))) λ_ e a k m=>lJ 3 h k z (λh k=>?_) λh k=>?_
 · refine uc 7 k z λk=>fS h k m z z
 refine oE h λ_ Q h=>gc 9 [bF m 0 A z,bF m 0 A z] k z λk=>cC k m call115 z (gh Q (m.r D)) λ_ e a k m=>lJ 3 h k z (λh k=>?_) λh k=>?_
 · refine uc 7 k z λk=>fS h k m z z
 refine oE h λV Q h=>gc 5 [bA m 0 A z] k z λk=>cC k m call98 z (MM Q (AE (m.r D) (m.r L) (m.r J))) λ_ e a k m=>pN 3 k z λa k=>AP m k zeroValue102 z z z z z λQ _ a k m e D=>sT sizeOf102 m 0 D 0 k z z λU a k e m T=>ul 10 k z λk=>lG (λn a w=>∃ D,K 85 [(1,pt E),(3,pt Q),(5,I D)] a∧St [] N w [([E],O),([Q],U)]∧JI fu M V n D=some r) ?_ fu ?_
 · rintro _ a _ ⟨D,k,m,h⟩;refine gJ 10 [bF m 0 A z,lF J] h k z (λh k=>?_) λh k=>?_
   · refine uc 5 k z λk=>dI [] m z λD m s=>oE h λ_ Q h=>dr [2,0,1,3,4,5] 6 [bF D 0 A z,iF J Q,eA (D.r J) Q,bA D 1 T z] k z s λk=>dG 6 z (oE h λ_ D h=>?_);refine cC k m call99 z (Zx D) λ_ e a k m=>ns s e λs=>dM [7] 1 z k z s λa k=>dD ((AF ?_));refine cJ h k z (λh=>?_) λh=>?_
     · refine uc 11 k z λk=>fS h k m z z
     exact uc 9 k z λk=>⟨_,k.p z,m.f z,h⟩
   refine uc 12 k z λk=>lG (λn a w=>∃ D,K 85 [(1,pt E),(6,I D)] a∧St [] N w [([E],O)]∧HP fu M n D=some r) ?_ fu ?_
   · rintro J a _ ⟨D,k,m,h⟩;refine gJ 10 [bF m 0 A z,lF L] h k z (λh k=>?_) λh k=>?_
     · refine uc 2 k z λk=>cg (λa w=>K 85 [(1,pt E),(6,I D)] a∧St [] N w [([E],O)]∧WU fu (HP fu M J) D=some r) ?_ ?_
       · rintro a _ ⟨k,m,h⟩;exact uc 6 k z λk=>⟨_,k.p z,m.f z,h⟩
       refine oE h λ_ D h=>gc 8 [bF m 0 A z,iF L D,eA (m.r L) D] k z λk=>AP m k zeroValue102 z z z z z λ_ _ a k m e D=>sT sizeOf102 m 0 D 0 k z z λ_ a k e m D=>gl 11 [bF m 0 D z,bF m 1 A z] k z λk=>bT h k 58 z (λh k=>?_) λh k=>?_
       · refine ul 40 k z λk=>fS h k m z z
       refine gl 8 [bF m 0 D z,bF m 1 A z] k z λk=>bT h k 66 z (λh k=>?_) λh k=>?_
       · refine ul 32 k z λk=>fS h k m z z
       refine gl 8 [bF m 0 D z,bF m 1 A z] k z λk=>bT h k 74 z (λh k=>?_) λh k=>?_
       · refine ul 24 k z λk=>fS h k m z z
       refine hJ 12 [bF m 0 D z,bF m 0 D z,bF m 1 A z] h k z (λh k=>?_) λh k=>?_
       · refine uc 11 k z λk=>fS h k m z z
       exact uc 3 k z λk=>⟨k.p z,m.sl [1] z,h⟩
     refine uc 11 k z λk=>fS h k m z z
   exact ⟨_,k.p z,m.f z,h⟩
 exact ⟨_,k.p z,m.sl [1,0] z,h⟩
theorem Z7 {fu L Q E M D r} (h:RU fu Q=some r) (V:bx L D [E,I Q.fi,I Q.fh] 75) (N:rd L M [E] Q.fb) (U:∀ b∈M,b∉[D]):Calls Tryz.prog 38 #[pt D] L λe w=>∃ (M:List Value) (T:List Nat),e=.returned (.agg M.toArray)∧Ext [D] L w∧ow w T M r.1∧(∀ b∈T,L.heap.size≤b)∧bx w D [E,I r.2.fi,I r.2.fh] 75:=by
 refine eg (vs:=[_]) func38 z ntmps38 z λk _=>?_;have m:=St.start1 L V.lt1 AD;refine uc 2 k z λk=>AP m k zeroValue37 z z z z z λb8 Bi a k m e Bj=>oE h λA E h=>ul 5 k z λk=>sC k call97 z (Zq E (m.y V 1 z) (m.r1 N U) (m.disX 1 z (Enc.rd_lt N) U)) λ_ J hR=>?_;obtain ⟨_,Y,rfl,e,O,M,Bo⟩:=hR;refine ⟨_,z,λa k=>?_⟩;have m:=m.mut 1 z e ([D]++Y) (λb E=>(List.mem_append.1 E).elim (λE=>⟨.inl E,e.lt1 (m.ltF 1 z) b E⟩) (λE=>⟨.inr (M b E),(Enc.rd_lt (Enc.ow_rd O)) b E⟩)) (cN (m.ndF 1 z) (Enc.ow_nd O) (m.ltF 1 z) M);have m:=m.toFront 1 z;have m:=m.split2;have m:=m.toFront 1 z;obtain ⟨Af,Z,Ag,Av,Am,Bc,rfl,rfl,N,M,E,_⟩:=O;have m:=m.split2;have m:=m.split2at1;refine AP m k zeroValue37 z z z z z λY _ a k m e O=>sT sizeOf37 m 0 O 0 k z (AH z (AH z (AH z (AH z (AH z (AH z (AH (A5 (Enc.ow_rd N)) (AH (A5 (Enc.ow_rd M)) (AH z (AH (A5 (Enc.ow_rd E)) DS)))))))))) λ_ a k e m Bb=>oE h λ_ O h=>gl 6 [bA m 0 Bb z] k z λk=>cC k m call54 z (GW O (AE (m.q N 1 z) (m.q M 2 z) (m.q E 3 z))) λ_ e a k m=>lJ 3 h k z (λh k=>?_) λh k=>?_
 · refine uc 2 k z λk=>sv k z (AN ub k (cs:=#[I 30,I 25,I 24,I 400]) (ps:=[(0,.const (I 30)),(1,.const (I 25)),(2,.const (I 24)),(3,.const (I 400))]) z z AQ) λa k=>sv k z (M5 kC k z z) λa k=>sT sizeOf32 m 0 Bb 1 k z z λBl a k e m U=>oE h λAb O h=>gl 5 [bA m 0 U z] k z λk=>cC k m call98 z (MM O (show rd _ _ [I A.1.fc,I 30,I 25,I 24,I 400,I A.1.fR,Af,Ag,I A.1.fP,Am] ((⟨A.1.fc,(⟨30,25,24,400⟩:Pallet),A.1.fR,A.1.fT,A.1.fG,A.1.fP,A.1.fU⟩:Request):Request) from ⟨_,_,_,_,_,_,z,z,(m.q N 1 z),(m.q M 2 z),(m.q E 3 z)⟩)) λ_ e a k m=>pN 3 k z λa k=>AP m k zeroValue102 z z z z z λV _ a k m e O=>sT sizeOf102 m 0 O 0 k z z λBh a k e m Cd=>ul 5 k z λk=>sB Y5 m k z (by exact fN) λ_ _ _ a k m e O=>?_;have Br:=AO O ([]:List Item) z z z;refine ul 10 k z λk=>lG (λn a w=>∃ O Aj Ap Ax T,K 46 [(2,pt b8),(3,pt Y),(4,pt V),(6,Aj),(7,I T)] a∧St [D] L w [([b8],Bi),([Y],Bl),([V],Bh),([D],J),(Z,J),(Av,J),(Bc,J),(Ap,Ax)]∧ow Ax Ap [Aj] O∧HY fu Q A Ab n O T=some r) ?_ fu ?_
   · rintro Bt a _ ⟨O,Aj,Ap,Ax,T,k,m,O,h⟩;refine gJ 10 [bF m 1 U z,lF (Enc.ow_rd E)] h k z (λh k=>?_) λh k=>?_
     · refine uc 2 k z λk=>cg (λa w=>∃ Ar Aw Aq Az,K 46 [(2,pt b8),(3,pt Y),(4,pt V),(6,Aw),(7,I T)] a∧St [D] L w [([b8],Bi),([Y],Bl),([V],Bh),([D],J),(Z,J),(Av,J),(Bc,J),(Aq,Az)]∧ow Az Aq [Aw] Ar∧PO fu (HY fu Q A Ab Bt) T Ar=some r) ?_ ?_
       · rintro a _ ⟨Ar,Aw,Aq,Az,k,m,D,h⟩;exact uc 6 k z λk=>⟨_,_,_,_,_,k.p z,m.f z,D,h⟩
       refine uc 2 k z λk=>dI [] m z λD m s=>oE h λL J h=>dr [2,0,1,3,4,5] 6 [bF D 1 U z,iF (Enc.ow_rd E) J,eA (D.q E 6 z) J,bA D 2 Cd z] k z s λk=>dG 6 z (oE h λ_ D h=>?_);refine cC k m call99 z (Zx D) λ_ e a k m=>ns s e λs=>dD ((AF ?_));refine cJ h k z (λh=>?_) λh=>?_
       · refine oE h λ_ _ h=>gc 7 [bF m 1 U z,iF (Enc.ow_rd E) J,eA (m.q E 6 z) J] k z λk=>sB Y5 m k z (by exact fC z fN) λ_ _ _ a k m e D=>?_;have J:=AO D ([L]:List Item) z z z;exact oE h λ_ D h=>BX D Y5 z m 8 O (News.rd (m.q J 0 z)) z z k z z z z z z z λ_ _ _ a k e m D=>ul 4 k z λk=>⟨_,_,_,_,k.p z,m.sl [1,2,3,4,5,6,7,8] z,D,h⟩
       exact uc 3 k z λk=>⟨_,_,_,_,k.p z,m.f z,O,h⟩
     refine uc 8 k z λk=>CN (cs':=[I A.1.fc,I 30,I 25,I 24,I 400,I A.1.fR,Af,Ag,I A.1.fP,Aj]) sizeOf35 m 1 U 9 k (CK (Enc.ow_rd O)) (A5 (Enc.ow_rd O)) z z z z z z z z z λ_ a k e m A=>gl 5 [bA m 1 A z] k z λk=>sT sizeOf37 m 0 Bj 0 k z (AH z (AH z (AH z (AH z (AH z (AH z (AH (A5 (Enc.ow_rd N)) (AH (A5 (Enc.ow_rd M)) (AH z (AH (A5 (Enc.ow_rd O)) DS)))))))))) λ_ a k e m A=>ul 3 k z λk=>?_;cases h;exact C5 k z (RV.cA k z SY (A.at (m.a 0 z) 0 10 z z z) z) ⟨_,_,z,m.ext,⟨_,Z,_,Av,_,Ap,z,z,(m.v N 4 z),(m.v M 5 z),(m.v O 7 z),by simpa [EC] using (m.sl [4,5,7] z).nd⟩,(A3 (m.freshX 4 3 z z z) (A3 (m.freshX 5 3 z z z) (m.freshX 7 3 z z z))),(m.y Bo 3 z)⟩
   exact ⟨_,_,_,_,_,k.p z,m.sl [7,2,1,6,3,4,5,0] z,Br,h⟩
 refine gc 5 [bA m 0 Bb z] k z λk=>sT sizeOf37 m 5 Bj 0 k z (AH z (AH z (AH z (AH z (AH z (AH z (AH (A5 (Enc.ow_rd N)) (AH (A5 (Enc.ow_rd M)) (AH z (AH (A5 (Enc.ow_rd E)) DS)))))))))) λ_ a k e m A=>ul 3 k z λk=>?_;cases h;exact C5 k z (RV.cA k z SY (A.at (m.a 5 z) 0 10 z z z) z) ⟨_,_,z,m.ext,⟨_,Z,_,Av,_,Bc,z,z,(m.v N 1 z),(m.v M 2 z),(m.v E 3 z),by simpa [EC] using (m.sl [1,2,3] z).nd⟩,(A3 (m.freshX 1 4 z z z) (A3 (m.freshX 2 4 z z z) (m.freshX 3 4 z z z))),(m.y Bo 4 z)⟩
theorem ef {fu M N J O r} (h:Sn fu N=some r) (A:rd M O [J] N):cS 17 [J] M (.string (r)):=by
 refine eg func17 z ntmps17 z λk m=>oE h λ_ J h=>uc 8 k z λk=>sC k call15 z (Xg J (m.r A)) λ_ _ E=>?_;obtain ⟨L,rfl,e,M,N⟩:=E;refine ⟨_,z,λa k=>?_⟩;have m:=m.new e [L] (λy J=>⟨yY N y J,M.lt1 y J⟩) AD;refine oE h λ_ J h=>ul 7 k z λk=>sU k m 0 call16 z (RD J (m.y M 0 z) (m.r A) (m.dis0 0 z (Enc.rd_lt A) AD)) λ_ J k m=>lJ 2 h k z (λh k=>?_) λh k=>?_
 · refine oE h λ_ M h=>uc 3 k z λk=>sU k m 0 call37 z (jg M (m.y J 0 z) (m.r A) (m.dis0 0 z (Enc.rd_lt A) AD)) λ_ _ k m=>ul 5 k z λk=>fS h k m z z
 refine oE h λ_ M h=>uc 5 k z λk=>sC k call38 z (Z7 M (m.y J 0 z) (m.r A) (m.dis0 0 z (Enc.rd_lt A) AD)) λ_ _ E=>?_;obtain ⟨_,Q,rfl,e,D,J,_⟩:=E;refine ⟨_,z,λa k=>?_⟩;have m:=m.mut 0 z e ([L]++Q) (λb A=>(List.mem_append.1 A).elim (λA=>⟨.inl A,e.lt1 (m.ltF 0 z) b A⟩) (λA=>⟨.inr (J b A),(Enc.rd_lt (Enc.ow_rd D)) b A⟩)) (cN (m.ndF 0 z) (Enc.ow_nd D) (m.ltF 0 z) J);have m:=m.split2;have m:=m.toFront 1 z;obtain ⟨_,_,_,_,_,_,rfl,rfl,E,J,A,_⟩:=D;have m:=m.split2;have m:=m.split2at1;refine oE h λ_ D h=>cC k m call20 z (VL D (AE (m.q E 0 z) (m.q J 1 z) (m.q A 2 z))) λ_ e a k m=>ul 4 k z λk=>fS h k m z z
theorem Xh {fu Q A D r} (h:LY fu A D=some r):cL 55 [.string (A),.int .u8 (D)] Q r:=by
 refine eg func55 z ntmps55 z λk m=>uc 7 k z λk=>sB XS m k z (by exact fN) λ_ _ _ a k m e E=>?_;have U:=AO E ([]:List ByteArray) z z z;refine ul 15 k z λk=>lG (λn a w=>∃ O N M J L E,K 36 [(0,.string (A)),(1,.int .u8 (D)),(5,N),(6,I L),(7,I E)] a∧St [] Q w [(M,J)]∧ow J M [N] O∧HQ fu A D n O L E=some r) ?_ fu ?_
 · rintro V a _ ⟨O,N,M,J,L,E,k,m,J,h⟩;refine uc 5 k z λk=>sv k z (c8 k underlying9 z z) λa k=>lJ 3 h k z (λh k=>?_) λh k=>?_
   · refine uc 2 k z λk=>cg (λa w=>∃ M T L O N,K 36 [(0,.string (A)),(1,.int .u8 (D)),(5,T),(6,I N),(7,I E)] a∧St [] Q w [(L,O)]∧ow O L [T] M∧KL fu (HQ fu A D V) E M N=some r) ?_ ?_
     · rintro a _ ⟨M,T,L,O,N,k,m,A,h⟩;exact uc 6 k z λk=>⟨_,_,_,_,_,_,k.p z,m.f z,A,h⟩
     refine uc 5 k z λk=>sv k z (c8 k underlying9 z z) λa k=>pN 2 k z λa k=>bT h k 19 z (λh k=>?_) λh k=>?_
     · refine oE h λE A h=>ul 15 k z λk=>sv k z (tE A k underlying9 z z z z) λa k=>sB XS m k z (by exact fC z fN) λ_ _ _ a k m e D=>?_;have A:=AO D ([E]:List ByteArray) z z z;exact oE h λ_ D h=>BX D XS z m 1 J (News.rd (m.q A 0 z)) z z k z z z z z z z λ_ _ _ a k e m A=>ul 10 k z λk=>⟨_,_,_,_,_,k.p z,m.sl [1] z,A,h⟩
     refine pN 2 k z λa k=>oE h λ_ A h=>sv k z (mj A k underlying9 z z z) λa k=>lJ 5 h k z (λh k=>?_) λh k=>?_
     · refine oE h λD A h=>uc 6 k z λk=>sv k z (tE A k underlying9 z z z z) λa k=>sB XS m k z (by exact fC z fN) λ_ _ _ a k m e E=>?_;have A:=AO E ([D]:List ByteArray) z z z;exact oE h λ_ D h=>BX D XS z m 1 J (News.rd (m.q A 0 z)) z z k z z z z z z z λ_ _ _ a k e m A=>ul 10 k z λk=>⟨_,_,_,_,_,k.p z,m.sl [1] z,A,h⟩
     exact uc 3 k z λk=>⟨_,_,_,_,_,k.p z,m.f z,J,h⟩
   exact uc 12 k z λk=>fL h k m J 0 z z
 exact ⟨_,_,_,_,_,_,k.p z,m.f z,U,h⟩
theorem ak {fu E A r} (h:MR fu A=some r):cS 156 [.string (A)] E (.tuple #[I r.1,.bool (r.2)]):=by
 refine eg func156 z ntmps156 z λk m=>uc 6 k z λk=>cg (λa w=>K 43 [(0,.string (A))] a∧St [] E w []∧VT fu A=some r) ?_ ?_
 · rintro a _ ⟨k,m,h⟩;refine uc 12 k z λk=>lG (λn a w=>∃ J D,K 43 [(0,.string (A)),(4,I J),(5,I D)] a∧St [] E w []∧GI fu A n J D=some r) ?_ fu ?_
   · rintro M a _ ⟨J,D,k,m,h⟩;refine uc 5 k z λk=>sv k z (c8 k underlying9 z z) λa k=>lJ 3 h k z (λh k=>?_) λh k=>?_
     · refine uc 2 k z λk=>cg (λa w=>∃ L,K 43 [(0,.string (A)),(4,I L),(5,I D)] a∧St [] E w []∧VH fu (GI fu A M) D L=some r) ?_ ?_
       · rintro a _ ⟨L,k,m,h⟩;exact uc 6 k z λk=>⟨_,_,k.p z,m.f z,h⟩
       refine uc 1 k z λk=>cg (λa w=>K 43 [(0,.string (A)),(4,I J),(5,I D)] a∧St [] E w []∧VM fu (GI fu A M) A J D=some r) ?_ ?_
       · rintro a _ ⟨k,m,h⟩;exact oE h λ_ A h=>uc 5 k z λk=>sv k z (mj A k underlying9 z z z) λa k=>sv k z (nb k underlying5 underlying3 z z) λa k=>ul 6 k z λk=>⟨_,k.p z,m.f z,h⟩
       refine oE h λ_ A h=>uc 4 k z λk=>sv k z (mj A k underlying9 z z z) λa k=>pN 2 k z λa k=>bT h k 24 z (λh k=>?_) λh k=>?_
       · refine ul 21 k z λk=>?_;cases h;exact B4 k z (RV.tmp k z) (RV.tmp k z) ⟨z,m.ext⟩
       refine pN 2 k z λa k=>oE h λ_ A h=>sv k z (mj A k underlying9 z z z) λa k=>lJ 4 h k z (λh k=>?_) λh k=>?_
       · refine uc 13 k z λk=>?_;cases h;exact B4 k z (RV.tmp k z) (RV.tmp k z) ⟨z,m.ext⟩
       exact uc 2 k z λk=>⟨k.p z,m.f z,h⟩
     refine oE h λ_ A h=>uc 9 k z λk=>cC k m call100 z (Ys A) λ_ e a k m=>lJ 4 h k z (λh k=>?_) λh k=>?_
     · refine uc 8 k z λk=>?_;cases h;exact B4 k z (RV.tmp k z) (RV.tmp k z) ⟨z,m.ext⟩
     refine uc 10 k z λk=>?_;cases h;exact B4 k z (RV.tmp k z) (RV.tmp k z) ⟨z,m.ext⟩
   exact ⟨_,_,k.p z,m.f z,h⟩
 refine uc 3 k z λk=>sv k z (c8 k underlying9 z z) λa k=>pN 2 k z λa k=>bT h k 9 z (λh k=>?_) λh k=>?_
 · refine ul 15 k z λk=>?_;cases h;exact B4 k z (RV.tmp k z) (RV.tmp k z) ⟨z,m.ext⟩
 refine pN 1 k z λa k=>sv k z (c8 k underlying9 z z) λa k=>lJ 4 h k z (λh k=>?_) λh k=>?_
 · refine uc 8 k z λk=>?_;cases h;exact B4 k z (RV.tmp k z) (RV.tmp k z) ⟨z,m.ext⟩
 exact uc 2 k z λk=>⟨k.p z,m.f z,h⟩
theorem iZ {fu D J E A r} (h:RL fu J E A=some r):Calls Tryz.prog 116 #[.string (J),.string (E),I A] D λe w=>∃ (E:Value) (A:List Nat),e=.returned (.tuple #[E,.bool (r.2)])∧Ext [] D w∧ow w A [E] r.1∧(∀ b∈A,D.heap.size≤b):=by
 refine eg (vs:=[_,_,_]) func116 z ntmps116 z λk m=>oE h λT A h=>uc 9 k z λk=>sL k m call55 z (Xh A) λY U V A k m=>ul 5 k z λk=>sB AV m k z (by exact fN) λE L _ a k m e J=>?_;have Q:=AO J ([]:List Int) z z z;refine ul 3 k z λk=>cg (λa w=>K 51 [(8,U),(9,(.slice (some ⟨E,0,none⟩) 0 0))] a∧St [] D w [(V,Y),([E],L)]∧V2 fu T=some r) ?_ ?_
 · rintro a _ ⟨k,m,h⟩;refine uc 7 k z λk=>lG (λn a w=>∃ M O J N L,K 51 [(8,U),(9,O),(10,I L)] a∧St [] D w [(V,Y),(J,N)]∧ow N J [O] M∧J4 fu T n M L=some r) ?_ fu ?_
   · rintro _ a _ ⟨M,O,J,N,L,k,m,L,h⟩;refine gJ 9 [lF (Enc.ow_rd A)] h k z (λh k=>?_) λh k=>?_
     · refine o2 h λ_ D N M h=>gc 10 [iF (Enc.ow_rd A) D,eF (m.q A 0 z) D 0] k z λk=>cC k m call156 z (ak M) λ_ e a k m=>lJ 14 h k z (λh k=>?_) λh k=>?_
       · refine uc 2 k z λk=>sB AV m k z (by exact fN) λO _ _ a k m e M=>?_;have D:=AO M ([]:List Int) z z z;refine ul 11 k z λk=>?_;cases h;exact B4 k z (RV.tmp k z) (RV.tmp k z) ⟨_,[O],z,m.ext,(m.v D 0 z),(m.fresh 0 z)⟩
       refine uc 5 k z λk=>sB AV m k z (by exact fC z fN) λ_ _ _ a k m e D=>?_;have M:=AO D ([N.1]:List Int) z z z;exact oE h λ_ D h=>BX D AV z m 2 L (News.rd (m.q M 0 z)) z z k z z z z z z z λ_ _ _ a k e m D=>ul 10 k z λk=>⟨_,_,_,_,_,k.p z,m.sl [1,2] z,D,h⟩
     refine uc 13 k z λk=>?_;cases h;exact B4 k z (RV.tmp k z) (RV.tmp k z) ⟨_,J,z,m.ext,(m.v L 1 z),(m.fresh 1 z)⟩
   exact ⟨_,_,_,_,_,k.p z,m.f z,Q,h⟩
 refine oE h λ_ D h=>gc 8 [iF (Enc.ow_rd A) D,eF (m.q A 1 z) D 0] k z λk=>bT h k 21 z (λh k=>?_) λh k=>?_
 · refine ul 18 k z λk=>?_;cases h;exact B4 k z (RV.tmp k z) (RV.tmp k z) ⟨_,[E],z,m.ext,(m.v Q 0 z),(m.fresh 0 z)⟩
 refine hJ 8 [lF (Enc.ow_rd A)] h k z (λh k=>?_) λh k=>?_
 · refine uc 9 k z λk=>?_;cases h;exact B4 k z (RV.tmp k z) (RV.tmp k z) ⟨_,[E],z,m.ext,(m.v Q 0 z),(m.fresh 0 z)⟩
 exact uc 2 k z λk=>⟨k.p z,m.sl [1,0] z,h⟩
theorem Fo {fu A M N J L E O r} (h:BV fu M N J L=some r) (D:rd A O [E] M):Calls Tryz.prog 56 #[E,I N,.string (J),I L] A λe w=>∃ (E:Value) (J:List Nat),e=.returned (.tuple #[E,.bool (r.2)])∧Ext [] A w∧ow w J [E] r.1∧(∀ b∈J,A.heap.size≤b):=by
 refine eg (vs:=[_,_,_,_]) func56 z ntmps56 z λk m=>gJ 16 [lF D] h k z (λh k=>?_) λh k=>?_
 · refine uc 2 k z λk=>sB AV m k z (by exact fN) λA _ _ a k m e E=>?_;have J:=AO E ([]:List Int) z z z;refine ul 6 k z λk=>?_;cases h;exact B4 k z (RV.tmp k z) (RV.tmp k z) ⟨_,[A],z,m.ext,(m.v J 0 z),(m.fresh 0 z)⟩
 refine o2 h λ_ A _ E h=>gc 10 [iF D A,eF (m.r D) A 0] k z λk=>sC k call116 z (iZ E) λ_ _ Q=>?_;obtain ⟨_,T,rfl,e,A,D⟩:=Q;refine ⟨_,z,λa k=>?_⟩;have m:=m.nw e D A;refine ul 7 k z λk=>?_;cases h;exact B4 k z (RV.tmp k z) (RV.tmp k z) ⟨_,T,z,m.ext,(m.v A 0 z),(m.fresh 0 z)⟩
theorem V0 {fu w0 O r} (h:J8 fu O=some r):Calls Tryz.prog 24 #[.string (O)] w0 λe w=>∃ (O:List Value) (G0:List Nat),e=.returned (.tuple #[.agg O.toArray,I r.2])∧Ext [] w0 w∧ow w G0 O r.1∧(∀ b∈G0,w0.heap.size≤b):=by
 refine eg (vs:=[_]) func24 z ntmps24 z λk m=>uc 2 k z λk=>AP m k zeroValue37 z z z z z λb2 w4 a k m e Ao=>oE h λY O h=>ul 6 k z λk=>sL k m call55 z (Xh O) λw9 Az Au M k m=>hJ 18 [lF (Enc.ow_rd M)] h k z (λh k=>?_) λh k=>?_
 · refine uc 2 k z λk=>sv k z (AN au k (cs:=#[I 0,I 0,I 0,I 0,I 0,I 0,.slice none 0 0,.slice none 0 0,I 0,.slice none 0 0]) (ps:=[]) z z AQ) λa k=>sT sizeOf37 m 1 Ao 0 k z z λ_ a k e m O=>ul 5 k z λk=>?_;cases h;exact B4 k z (RV.cA k z SY (O.at (m.a 1 z) 0 10 z z z) z) (RV.tmp k z) ⟨_,_,z,m.ext,⟨_,[],_,[],_,[],z,z,(A0 _),(A0 _),(A0 _),by simpa [EC] using (m.sl [] z).nd⟩,(A3 AD (A3 AD AD))⟩
 refine uc 4 k z λk=>sv k z (AN au k (cs:=#[I 0,I 0,I 0,I 0,I 0,I 0,.slice none 0 0,.slice none 0 0,I 0,.slice none 0 0]) (ps:=[]) z z AQ) λa k=>AP m k zeroValue37 z z z z z λE _ a k m e O=>sT sizeOf37 m 0 O 0 k z z λO a k e m Em=>ul 7 k z λk=>cg (λa w=>K 217 [(2,pt b2),(4,Az),(5,I (AK ((Y.length:Int) - 1))),(6,pt E)] a∧St [] w0 w [([b2],w4),([E],O),(Au,w9)]∧JN fu Y=some r) ?_ ?_
 · rintro a _ ⟨k,m,h⟩;refine cg (λa w=>∃ N O,K 217 [(2,pt b2),(4,Az),(5,I (AK ((Y.length:Int) - 1))),(6,pt E)] a∧St [] w0 w [([b2],w4),([E],O),(Au,w9)]∧bx O E [I N,I 0,I 0,I 0,I 0,I 0,.slice none 0 0,.slice none 0 0,I 0,.slice none 0 0] 37∧FI fu Y N=some r) ?_ ?_
   · rintro a _ ⟨N,O,k,m,Jz,h⟩;refine oE h λ_ O h=>uc 9 k z λk=>sC k call56 z (Fo O (m.q M 2 z)) λ_ _ J=>?_;obtain ⟨_,_,rfl,e,O,Ih⟩:=J;refine ⟨_,z,λa k=>?_⟩;have m:=m.nw e Ih O;refine lJ 14 h k z (λh k=>?_) λh k=>?_
     · refine uc 2 k z λk=>sv k z (AN au k (cs:=#[I 0,I 0,I 0,I 0,I 0,I 0,.slice none 0 0,.slice none 0 0,I 0,.slice none 0 0]) (ps:=[]) z z AQ) λa k=>pN 1 k z λa k=>sT sizeOf37 m 1 Ao 0 k z z λ_ a k e m Il=>ul 5 k z λk=>?_;cases h;exact B4 k z (RV.cA k z SY (Il.at (m.a 1 z) 0 10 z z z) z) (RV.tmp k z) ⟨_,_,z,m.ext,⟨_,[],_,[],_,[],z,z,(A0 _),(A0 _),(A0 _),by simpa [EC] using (m.sl [] z).nd⟩,(A3 AD (A3 AD AD))⟩
     refine uc 3 k z λk=>dI ([E]) m z λL m s=>dM [0,3,6,9] 4 z k z s λa k=>oE h λQ Fc h=>dT k 1 z z s (λw s=>BK (Enc.ow_rd O) Fc k FY z z z) λa k=>dT k 2 z z s (λw s=>CI (Enc.ow_rd O) (L.az 0 2 z z z s) Fc 0 GP k z z z z) λa k=>oE h λU Fb h=>dT k 4 z z s (λw s=>BK (Enc.ow_rd O) Fb k FY z z z) λa k=>dT k 5 z z s (λw s=>CI (Enc.ow_rd O) (L.az 0 2 z z z s) Fb 0 GP k z z z z) λa k=>oE h λT Eu h=>dT k 7 z z s (λw s=>BK (Enc.ow_rd O) Eu k FY z z z) λa k=>dT k 8 z z s (λw s=>CI (Enc.ow_rd O) (L.az 0 2 z z z s) Eu 0 GP k z z z z) λa k=>oE h λV Dr h=>dT k 10 z z s (λw s=>BK (Enc.ow_rd O) Dr k FY z z z) λa k=>dT k 11 z z s (λw s=>CI (Enc.ow_rd O) (L.az 0 2 z z z s) Dr 0 GP k z z z z) λa k=>dT k 12 z z s (λw s=>AN ub k (cs:=#[I Q,I U,I T,I V]) (ps:=[(0,.tmp 51),(1,.tmp 54),(2,.tmp 57),(3,.tmp 60)]) z z AQ) λa k=>dF k 13 kC z s λa k=>dG 14 z ?_;refine sT sizeOf32 m 2 Jz 1 k z z λ_ a k e m Lc=>nt iL s e λs=>dD ?_;refine (AF ?_);refine oE h λ_ O h=>uc 9 k z λk=>sC k call56 z (Fo O (m.q M 3 z)) λ_ _ J=>?_;obtain ⟨_,_,rfl,e,O,Io⟩:=J;refine ⟨_,z,λa k=>?_⟩;have m:=m.nw e Io O;refine lJ 14 h k z (λh k=>?_) λh k=>?_
     · refine uc 2 k z λk=>sv k z (AN au k (cs:=#[I 0,I 0,I 0,I 0,I 0,I 0,.slice none 0 0,.slice none 0 0,I 0,.slice none 0 0]) (ps:=[]) z z AQ) λa k=>pN 1 k z λa k=>sT sizeOf37 m 2 Ao 0 k z z λ_ a k e m Iy=>ul 5 k z λk=>?_;cases h;exact B4 k z (RV.cA k z SY (Iy.at (m.a 2 z) 0 10 z z z) z) (RV.tmp k z) ⟨_,_,z,m.ext,⟨_,[],_,[],_,[],z,z,(A0 _),(A0 _),(A0 _),by simpa [EC] using (m.sl [] z).nd⟩,(A3 AD (A3 AD AD))⟩
     refine oE h λZ Fu h=>gc 8 [iF (Enc.ow_rd O) Fu,eF (m.q O 0 z) Fu 0] k z λk=>sT sizeOf3 m 3 Lc 5 k z z λ_ a k e m Kb=>oE h λ_ O h=>ul 11 k z λk=>sC k call56 z (Fo O (m.q M 4 z)) λ_ _ J=>?_;obtain ⟨_,_,rfl,e,Dg,O⟩:=J;refine ⟨_,z,λa k=>?_⟩;have m:=m.nw e O Dg;refine ul 9 k z λk=>lG (λn a w=>∃ Bc Ak Al Bs O As Do Dm Cz Cq Cm,K 217 [(2,pt b2),(4,Az),(5,I (AK ((Y.length:Int) - 1))),(6,pt E),(7,I As),(8,Dm),(9,.bool (Cm))] a∧St [] w0 w [([b2],w4),(Al,Bs),([E],O),(Au,w9),(Cz,Cq)]∧ow Bs Al [Ak] Bc∧bx O E [I N,I Q,I U,I T,I V,I Z,Ak,.slice none 0 0,I 0,.slice none 0 0] 37∧ow Cq Cz [Dm] Do∧JO fu Y N Q U T V Z n Bc As Do Cm=some r) ?_ fu ?_
     · rintro _ a _ ⟨Bc,Ak,Al,Bs,O,As,Do,Dm,Cz,Cq,Cm,k,m,Ca,Bg,O,h⟩;refine uJ 6 h k z (λh k=>?_) λh k=>?_
       · refine uc 4 k z λk=>dI (Al++([E])) m z λL m s=>?_;have A:=(L.sel [1,2,0,3,4] z A1).join2;refine dM [2,5] 2 z k z s λa k=>dF k 0 UJ z s λa k=>oE h λBq Fp h=>dT k 3 z z s (λw s=>BK (Enc.ow_rd O) Fp k FY z z z) λa k=>dT k 4 z z s (λw s=>CI (Enc.ow_rd O) (A.az 3 0 z z z s) Fp 0 GP k z z z z) λa k=>oE h λBj Eb h=>dT k 6 z z s (λw s=>BK (Enc.ow_rd O) Eb k FY z z z) λa k=>dT k 7 z z s (λw s=>CI (Enc.ow_rd O) (A.az 3 0 z z z s) Eb 0 GP k z z z z) λa k=>dT k 8 z z s (λw s=>AN gk k (cs:=#[I Bq,I Bj]) (ps:=[(0,.tmp 88),(1,.tmp 91)]) z z AQ) λa k=>VC 1 9 AQ z z ?_ ?_
         · refine gl 1 [bF m 2 Bg z] k z λk=>wpList_nil ⟨s,?_⟩;refine dG 9 z (BD bO m k z z z z z z z A1 z (by exact fC z fN) λ_ _ _ a k m e O Iw=>?_);have Mw:=s.lo Iw;have Ix:=AO O ([(⟨Bq,Bj⟩:Pair)]:List Pair) z z z;refine ns s e λs=>dG 10 z (oE h λ_ O h=>AZ O bO z m 2 Ca (News.rd (m.q Ix 0 z)) z z k z z z z z z z λFd Fw _ a k e m Dl O=>?_);have Lr:∀ y∈Fw,y∈(Al++([E]))∨_≤y:=λy D=>(O y D).elim (λD=>(λy D=>Or.inl (List.mem_append_left _ D)) y D) (λh=>Or.inr (Nat.le_trans s.size h));refine nt iA s e λs=>dF k 11 UJ z s λa k=>dG 12 z (CN (cs':=[I N,I Q,I U,I T,I V,I Z,Fd,.slice none 0 0,I 0,.slice none 0 0]) sizeOf33 m 3 Bg 6 k (CK (Enc.ow_rd Dl)) (A5 (Enc.ow_rd Dl)) z z z z z z z z z λ_ a k e m Hi=>?_);refine nt iB s e λs=>dD ((AF ?_));refine oE h λ_ O h=>uc 10 k z λk=>sC k call56 z (Fo O (m.q M 4 z)) λ_ _ J=>?_;obtain ⟨_,_,rfl,e,O,Ky⟩:=J;refine ⟨_,z,λa k=>?_⟩;have m:=m.nw e Ky O;exact ul 8 k z λk=>⟨_,_,_,_,_,_,_,_,_,_,_,k.p z,m.sl [2,3,4,5,0] z,Dl,Hi,O,h⟩
         refine BD bO m k z z z z z z z A1 z (by exact fC z fN) λ_ _ _ a k m e Ka O=>?_;have Mk:=s.lo O;have O:=AO Ka ([(⟨Bq,Bj⟩:Pair)]:List Pair) z z z;refine ns s e λs=>dG 1 z (gl 1 [bF m 3 Bg z] k z λk=>wpList_nil ⟨s,?_⟩);refine dG 10 z (oE h λ_ Lf h=>AZ Lf bO z m 2 Ca (News.rd (m.q O 0 z)) z z k z z z z z z z λEh O _ a k e m De Lg=>?_);have Ms:∀ y∈O,y∈(Al++([E]))∨_≤y:=λy D=>(Lg y D).elim (λD=>(λy D=>Or.inl (List.mem_append_left _ D)) y D) (λh=>Or.inr (Nat.le_trans s.size h));refine nt iA s e λs=>dF k 11 UJ z s λa k=>dG 12 z (CN (cs':=[I N,I Q,I U,I T,I V,I Z,Eh,.slice none 0 0,I 0,.slice none 0 0]) sizeOf33 m 3 Bg 6 k (CK (Enc.ow_rd De)) (A5 (Enc.ow_rd De)) z z z z z z z z z λ_ a k e m Lh=>?_);refine nt iB s e λs=>dD ((AF ?_));refine oE h λ_ O h=>uc 10 k z λk=>sC k call56 z (Fo O (m.q M 4 z)) λ_ _ J=>?_;obtain ⟨_,_,rfl,e,O,Ht⟩:=J;refine ⟨_,z,λa k=>?_⟩;have m:=m.nw e Ht O;exact ul 8 k z λk=>⟨_,_,_,_,_,_,_,_,_,_,_,k.p z,m.sl [2,3,4,5,0] z,De,Lh,O,h⟩
       refine oE h λ_ O h=>uc 9 k z λk=>sC k call56 z (Fo O (m.q M 3 z)) λ_ _ J=>?_;obtain ⟨_,_,rfl,e,Dp,O⟩:=J;refine ⟨_,z,λa k=>?_⟩;have m:=m.nw e O Dp;refine ul 9 k z λk=>lG (λn a w=>∃ Cc Aq Ap By Dd O Dc Da Co Cv Cl,K 217 [(2,pt b2),(4,Az),(5,I (AK ((Y.length:Int) - 1))),(6,pt E),(7,I O),(8,Da),(9,.bool (Cl))] a∧St [] w0 w [([b2],w4),(Ap,By),([E],Dd),(Au,w9),(Al,Bs),(Co,Cv)]∧ow By Ap [Aq] Cc∧bx Dd E [I N,I Q,I U,I T,I V,I Z,Ak,Aq,I 0,.slice none 0 0] 37∧ow Cv Co [Da] Dc∧HB fu Y N Q U T V Z Bc n Cc O Dc Cl=some r) ?_ fu ?_
       · rintro _ a _ ⟨Cc,Aq,Ap,By,Dd,O,Dc,Da,Co,Cv,Cl,k,m,Bx,Bn,O,h⟩;refine uJ 6 h k z (λh k=>?_) λh k=>?_
         · refine uc 4 k z λk=>dI (Ap++([E])) m z λL m s=>?_;have A:=(L.sel [1,2,0,3,4,5] z A1).join2;refine dM [2,5,8,11,14,17,20] 7 z k z s λa k=>dF k 0 I1 z s λa k=>oE h λBa Ep h=>dT k 3 z z s (λw s=>BK (Enc.ow_rd O) Ep k FY z z z) λa k=>dT k 4 z z s (λw s=>CI (Enc.ow_rd O) (A.az 4 0 z z z s) Ep 0 GP k z z z z) λa k=>oE h λBk Ft h=>dT k 6 z z s (λw s=>BK (Enc.ow_rd O) Ft k FY z z z) λa k=>dT k 7 z z s (λw s=>CI (Enc.ow_rd O) (A.az 4 0 z z z s) Ft 0 GP k z z z z) λa k=>oE h λBi Fi h=>dT k 9 z z s (λw s=>BK (Enc.ow_rd O) Fi k FY z z z) λa k=>dT k 10 z z s (λw s=>CI (Enc.ow_rd O) (A.az 4 0 z z z s) Fi 0 GP k z z z z) λa k=>oE h λBb Dw h=>dT k 12 z z s (λw s=>BK (Enc.ow_rd O) Dw k FY z z z) λa k=>dT k 13 z z s (λw s=>CI (Enc.ow_rd O) (A.az 4 0 z z z s) Dw 0 GP k z z z z) λa k=>oE h λBt Ea h=>dT k 15 z z s (λw s=>BK (Enc.ow_rd O) Ea k FY z z z) λa k=>?_;refine dT k 16 z z s (λw s=>CI (Enc.ow_rd O) (A.az 4 0 z z z s) Ea 0 GP k z z z z) λa k=>oE h λBu Ff h=>dT k 18 z z s (λw s=>BK (Enc.ow_rd O) Ff k FY z z z) λa k=>dT k 19 z z s (λw s=>CI (Enc.ow_rd O) (A.az 4 0 z z z s) Ff 0 GP k z z z z) λa k=>oE h λBr Fq h=>dT k 21 z z s (λw s=>BK (Enc.ow_rd O) Fq k FY z z z) λa k=>dT k 22 z z s (λw s=>CI (Enc.ow_rd O) (A.az 4 0 z z z s) Fq 0 GP k z z z z) λa k=>dT k 23 z z s (λw s=>AN Xc k (cs:=#[I Ba,I Bk,I Bi,I Bb,I Bt,I Bu,I Br]) (ps:=[(0,.tmp 115),(1,.tmp 118),(2,.tmp 121),(3,.tmp 124),(4,.tmp 127),(5,.tmp 130),(6,.tmp 133)]) z z AQ) λa k=>VC 1 24 AQ z z ?_ ?_
           · refine gl 1 [bF m 2 Bn z] k z λk=>wpList_nil ⟨s,?_⟩;refine dG 24 z (BD Pz m k z z z z z z z A1 z (by exact fC z fN) λ_ _ _ a k m e Hq O=>?_);have Mo:=s.lo O;have O:=AO Hq ([(⟨Ba,Bk,Bi,Bb,Bt,Bu,Br⟩:Typ)]:List Typ) z z z;refine ns s e λs=>dG 25 z (oE h λ_ Ke h=>AZ Ke Pz z m 2 Bx (News.rd (m.q O 0 z)) z z k z z z z z z z λFy Ec _ a k e m Cy O=>?_);have Ny:∀ y∈Ec,y∈(Ap++([E]))∨_≤y:=λy D=>(O y D).elim (λD=>(λy D=>Or.inl (List.mem_append_left _ D)) y D) (λh=>Or.inr (Nat.le_trans s.size h));refine nt iA s e λs=>dF k 26 I1 z s λa k=>dG 27 z (CN (cs':=[I N,I Q,I U,I T,I V,I Z,Ak,Fy,I 0,.slice none 0 0]) sizeOf34 m 3 Bn 7 k (CK (Enc.ow_rd Cy)) (A5 (Enc.ow_rd Cy)) z z z z z z z z z λ_ a k e m Jk=>?_);refine nt iB s e λs=>dD ?_;refine (AF ?_);refine oE h λ_ O h=>uc 10 k z λk=>sC k call56 z (Fo O (m.q M 4 z)) λ_ _ J=>?_;obtain ⟨_,_,rfl,e,O,Jj⟩:=J;refine ⟨_,z,λa k=>?_⟩;have m:=m.nw e Jj O;exact ul 8 k z λk=>⟨_,_,_,_,_,_,_,_,_,_,_,k.p z,m.sl [2,3,4,5,6,0] z,Cy,Jk,O,h⟩
           refine BD Pz m k z z z z z z z A1 z (by exact fC z fN) λ_ _ _ a k m e Kr O=>?_;have Nc:=s.lo O;have O:=AO Kr ([(⟨Ba,Bk,Bi,Bb,Bt,Bu,Br⟩:Typ)]:List Typ) z z z;refine ns s e λs=>dG 1 z (gl 1 [bF m 3 Bn z] k z λk=>wpList_nil ⟨s,?_⟩);refine dG 25 z (oE h λ_ Ki h=>AZ Ki Pz z m 2 Bx (News.rd (m.q O 0 z)) z z k z z z z z z z λO Fv _ a k e m Dq Gn=>?_);have Lw:∀ y∈Fv,y∈(Ap++([E]))∨_≤y:=λy D=>(Gn y D).elim (λD=>(λy D=>Or.inl (List.mem_append_left _ D)) y D) (λh=>Or.inr (Nat.le_trans s.size h));refine nt iA s e λs=>dF k 26 I1 z s λa k=>dG 27 z (CN (cs':=[I N,I Q,I U,I T,I V,I Z,Ak,O,I 0,.slice none 0 0]) sizeOf34 m 3 Bn 7 k (CK (Enc.ow_rd Dq)) (A5 (Enc.ow_rd Dq)) z z z z z z z z z λ_ a k e m Jm=>?_);refine nt iB s e λs=>dD ?_;refine (AF ?_);refine oE h λ_ O h=>uc 10 k z λk=>sC k call56 z (Fo O (m.q M 4 z)) λ_ _ J=>?_;obtain ⟨_,_,rfl,e,O,Kl⟩:=J;refine ⟨_,z,λa k=>?_⟩;have m:=m.nw e Kl O;exact ul 8 k z λk=>⟨_,_,_,_,_,_,_,_,_,_,_,k.p z,m.sl [2,3,4,5,6,0] z,Dq,Jm,O,h⟩
         refine oE h λ_ O h=>uc 9 k z λk=>sC k call56 z (Fo O (m.q M 3 z)) λ_ _ J=>?_;obtain ⟨_,_,rfl,e,O,Ks⟩:=J;refine ⟨_,z,λa k=>?_⟩;have m:=m.nw e Ks O;refine lJ 14 h k z (λh k=>?_) λh k=>?_
         · refine uc 2 k z λk=>sv k z (AN au k (cs:=#[I 0,I 0,I 0,I 0,I 0,I 0,.slice none 0 0,.slice none 0 0,I 0,.slice none 0 0]) (ps:=[]) z z AQ) λa k=>pN 1 k z λa k=>sT sizeOf37 m 1 Ao 0 k z z λ_ a k e m Jo=>ul 5 k z λk=>?_;cases h;exact B4 k z (RV.cA k z SY (Jo.at (m.a 1 z) 0 10 z z z) z) (RV.tmp k z) ⟨_,_,z,m.ext,⟨_,[],_,[],_,[],z,z,(A0 _),(A0 _),(A0 _),by simpa [EC] using (m.sl [] z).nd⟩,(A3 AD (A3 AD AD))⟩
         refine oE h λAw Ed h=>gc 8 [iF (Enc.ow_rd O) Ed,eF (m.q O 0 z) Ed 0] k z λk=>sT sizeOf3 m 3 Bn 8 k z z λ_ a k e m Id=>oE h λ_ O h=>ul 13 k z λk=>sC k call56 z (Fo O (m.q M 4 z)) λ_ _ J=>?_;obtain ⟨_,_,rfl,e,Di,O⟩:=J;refine ⟨_,z,λa k=>?_⟩;have m:=m.nw e O Di;refine ul 9 k z λk=>lG (λn a w=>∃ Ck Cg Ar Cu Cr At Cj Dj Df O Cs,K 217 [(2,pt b2),(4,Az),(5,I (AK ((Y.length:Int) - 1))),(6,pt E),(7,I At),(8,Dj),(9,.bool (Cs))] a∧St [] w0 w [([b2],w4),(Ar,Cu),([E],Cr),(Au,w9),(Al,Bs),(Ap,By),(Df,O)]∧ow Cu Ar [Cg] Ck∧bx Cr E [I N,I Q,I U,I T,I V,I Z,Ak,Aq,I Aw,Cg] 37∧ow O Df [Dj] Cj∧HD fu Y N Q U T V Z Bc Cc Aw n Ck At Cj Cs=some r) ?_ fu ?_
         · rintro _ a _ ⟨Ck,Cg,Ar,Cu,Cr,At,Cj,Dj,Df,O,Cs,k,m,Cb,Bm,O,h⟩;refine uJ 6 h k z (λh k=>?_) λh k=>?_
           · refine uc 4 k z λk=>dI (Ar++([E])) m z λL m s=>?_;have A:=(L.sel [1,2,0,3,4,5,6] z A1).join2;refine dM [2,5,8,11,14,17,20] 7 z k z s λa k=>dF k 0 W7 z s λa k=>oE h λBe L h=>dT k 3 z z s (λw s=>BK (Enc.ow_rd O) L k FY z z z) λa k=>dT k 4 z z s (λw s=>CI (Enc.ow_rd O) (A.az 5 0 z z z s) L 0 GP k z z z z) λa k=>oE h λBf L h=>dT k 6 z z s (λw s=>BK (Enc.ow_rd O) L k FY z z z) λa k=>dT k 7 z z s (λw s=>CI (Enc.ow_rd O) (A.az 5 0 z z z s) L 0 GP k z z z z) λa k=>oE h λBd L h=>dT k 9 z z s (λw s=>BK (Enc.ow_rd O) L k FY z z z) λa k=>dT k 10 z z s (λw s=>CI (Enc.ow_rd O) (A.az 5 0 z z z s) L 0 GP k z z z z) λa k=>oE h λBp L h=>dT k 12 z z s (λw s=>BK (Enc.ow_rd O) L k FY z z z) λa k=>dT k 13 z z s (λw s=>CI (Enc.ow_rd O) (A.az 5 0 z z z s) L 0 GP k z z z z) λa k=>oE h λBv L h=>dT k 15 z z s (λw s=>BK (Enc.ow_rd O) L k FY z z z) λa k=>?_;refine dT k 16 z z s (λw s=>CI (Enc.ow_rd O) (A.az 5 0 z z z s) L 0 GP k z z z z) λa k=>oE h λBh L h=>dT k 18 z z s (λw s=>BK (Enc.ow_rd O) L k FY z z z) λa k=>dT k 19 z z s (λw s=>CI (Enc.ow_rd O) (A.az 5 0 z z z s) L 0 GP k z z z z) λa k=>oE h λBl L h=>dT k 21 z z s (λw s=>BK (Enc.ow_rd O) L k FY z z z) λa k=>dT k 22 z z s (λw s=>CI (Enc.ow_rd O) (A.az 5 0 z z z s) L 0 GP k z z z z) λa k=>dT k 23 z z s (λw s=>AN Zf k (cs:=#[I Be,I Bf,I Bd,I Bp,I Bv,I Bh,I Bl]) (ps:=[(0,.tmp 173),(1,.tmp 176),(2,.tmp 179),(3,.tmp 182),(4,.tmp 185),(5,.tmp 188),(6,.tmp 191)]) z z AQ) λa k=>VC 1 24 AQ z z ?_ ?_
             · refine gl 1 [bF m 2 Bm z] k z λk=>wpList_nil ⟨s,?_⟩;refine dG 24 z (BD Y5 m k z z z z z z z A1 z (by exact fC z fN) λ_ _ _ a k m e A L=>?_);have O:=s.lo L;have L:=AO A ([(⟨Be,Bf,Bd,Bp,Bv,Bh,Bl⟩:Item)]:List Item) z z z;refine ns s e λs=>dG 25 z (oE h λ_ A h=>AZ A Y5 z m 2 Cb (News.rd (m.q L 0 z)) z z k z z z z z z z λA L _ a k e m Cp O=>?_);have Nt:∀ y∈L,y∈(Ar++([E]))∨_≤y:=λy D=>(O y D).elim (λD=>(λy D=>Or.inl (List.mem_append_left _ D)) y D) (λh=>Or.inr (Nat.le_trans s.size h));refine nt iA s e λs=>dF k 26 W7 z s λa k=>dG 27 z (CN (cs':=[I N,I Q,I U,I T,I V,I Z,Ak,Aq,I Aw,A]) sizeOf35 m 3 Bm 9 k (CK (Enc.ow_rd Cp)) (A5 (Enc.ow_rd Cp)) z z z z z z z z z λ_ a k e m Hk=>?_);refine nt iB s e λs=>dD ?_;refine (AF ?_);refine oE h λ_ A h=>uc 10 k z λk=>sC k call56 z (Fo A (m.q M 4 z)) λ_ _ J=>?_;obtain ⟨_,_,rfl,e,A,L⟩:=J;refine ⟨_,z,λa k=>?_⟩;have m:=m.nw e L A;exact ul 8 k z λk=>⟨_,_,_,_,_,_,_,_,_,_,_,k.p z,m.sl [2,3,4,5,6,7,0] z,Cp,Hk,A,h⟩
             refine BD Y5 m k z z z z z z z A1 z (by exact fC z fN) λ_ _ _ a k m e O A=>?_;have L:=s.lo A;have L:=AO O ([(⟨Be,Bf,Bd,Bp,Bv,Bh,Bl⟩:Item)]:List Item) z z z;refine ns s e λs=>dG 1 z (gl 1 [bF m 3 Bm z] k z λk=>wpList_nil ⟨s,?_⟩);refine dG 25 z (oE h λ_ A h=>AZ A Y5 z m 2 Cb (News.rd (m.q L 0 z)) z z k z z z z z z z λO A _ a k e m Cw L=>?_);have Lx:∀ y∈A,y∈(Ar++([E]))∨_≤y:=λy D=>(L y D).elim (λD=>(λy D=>Or.inl (List.mem_append_left _ D)) y D) (λh=>Or.inr (Nat.le_trans s.size h));refine nt iA s e λs=>dF k 26 W7 z s λa k=>dG 27 z (CN (cs':=[I N,I Q,I U,I T,I V,I Z,Ak,Aq,I Aw,O]) sizeOf35 m 3 Bm 9 k (CK (Enc.ow_rd Cw)) (A5 (Enc.ow_rd Cw)) z z z z z z z z z λ_ a k e m Ju=>?_);refine nt iB s e λs=>dD ?_;refine (AF ?_);refine oE h λ_ A h=>uc 10 k z λk=>sC k call56 z (Fo A (m.q M 4 z)) λ_ _ J=>?_;obtain ⟨_,_,rfl,e,A,D⟩:=J;refine ⟨_,z,λa k=>?_⟩;have m:=m.nw e D A;exact ul 8 k z λk=>⟨_,_,_,_,_,_,_,_,_,_,_,k.p z,m.sl [2,3,4,5,6,7,0] z,Cw,Ju,A,h⟩
           refine uc 12 k z λk=>SS (decide (At<(AK ((Y.length:Int) - 1)))) (λA=>?_) (λA=>?_)
           · have h:=WD A h;refine rB k 207 z A λk=>ul 11 k z λk=>sv k z (AN au k (cs:=#[I 0,I 0,I 0,I 0,I 0,I 0,.slice none 0 0,.slice none 0 0,I 0,.slice none 0 0]) (ps:=[]) z z AQ) λa k=>pN 1 k z λa k=>sT sizeOf37 m 0 Ao 0 k z z λ_ a k e m D=>ul 5 k z λk=>?_;cases h;exact B4 k z (RV.cA k z SY (D.at (m.a 0 z) 0 10 z z z) z) (RV.tmp k z) ⟨_,_,z,m.ext,⟨_,[],_,[],_,[],z,z,(A0 _),(A0 _),(A0 _),by simpa [EC] using (m.sl [] z).nd⟩,(A3 AD (A3 AD AD))⟩
           have h:=WG A h;refine rB k 207 z A λk=>oE h λ_ Ez h=>hJ 8 [iF (Enc.ow_rd M) Ez,eF (m.q M 3 z) Ez 0] h k z (λh k=>?_) λh k=>?_
           · refine uc 2 k z λk=>sv k z (AN au k (cs:=#[I 0,I 0,I 0,I 0,I 0,I 0,.slice none 0 0,.slice none 0 0,I 0,.slice none 0 0]) (ps:=[]) z z AQ) λa k=>pN 1 k z λa k=>sT sizeOf37 m 0 Ao 0 k z z λ_ a k e m A=>ul 5 k z λk=>?_;cases h;exact B4 k z (RV.cA k z SY (A.at (m.a 0 z) 0 10 z z z) z) (RV.tmp k z) ⟨_,_,z,m.ext,⟨_,[],_,[],_,[],z,z,(A0 _),(A0 _),(A0 _),by simpa [EC] using (m.sl [] z).nd⟩,(A3 AD (A3 AD AD))⟩
           refine gc 5 [bA m 2 Bm z] k z λk=>sT sizeOf37 m 0 Ao 0 k z (AH z (AH z (AH z (AH z (AH z (AH z (AH (A5 (Enc.ow_rd Ca)) (AH (A5 (Enc.ow_rd Bx)) (AH z (AH (A5 (Enc.ow_rd Cb)) DS)))))))))) λ_ a k e m Gc=>ul 4 k z λk=>?_;cases h;exact B4 k z (RV.cA k z SY (Gc.at (m.a 0 z) 0 10 z z z) z) (RV.tmp k z) ⟨_,_,z,m.ext,⟨_,Al,_,Ap,_,Ar,z,z,(m.v Ca 4 z),(m.v Bx 5 z),(m.v Cb 1 z),by simpa [EC] using (m.sl [4,5,1] z).nd⟩,(A3 (m.fresh 4 z) (A3 (m.fresh 5 z) (m.fresh 1 z)))⟩
         exact ⟨_,_,_,_,_,_,_,_,_,_,_,k.p z,(m.addNil (u:=w0)).sel [3,0,5,6,7,4,1] z A1,(A0 _),Id,Di,h⟩
       exact ⟨_,_,_,_,_,_,_,_,_,_,_,k.p z,(m.addNil (u:=w0)).sel [2,0,4,5,3,1] z A1,(A0 _),Bg,Dp,h⟩
     exact ⟨_,_,_,_,_,_,_,_,_,_,_,k.p z,(m.addNil (u:=w0)).sel [4,0,5,6,1] z A1,(A0 _),Kb,Dg,h⟩
   refine oE h λ_ A h=>gJ 8 [iF (Enc.ow_rd M) A,eF (m.q M 2 z) A 0] h k z (λh k=>?_) λh k=>?_
   · exact uc 2 k z λk=>sT sizeOf3 m 1 Em 0 k z z λ_ a k e m A=>ul 2 k z λk=>⟨_,_,k.p z,m.f z,A,h⟩
   exact uc 2 k z λk=>⟨_,_,k.p z,m.f z,Em,h⟩
 refine uc 5 k z λk=>SS (decide ((AK ((Y.length:Int) - 1))<1)) (λA=>?_) (λA=>?_)
 · have h:=WD A h;refine rB k 21 z A λk=>ul 16 k z λk=>sv k z (AN au k (cs:=#[I 0,I 0,I 0,I 0,I 0,I 0,.slice none 0 0,.slice none 0 0,I 0,.slice none 0 0]) (ps:=[]) z z AQ) λa k=>sT sizeOf37 m 2 Ao 0 k z z λ_ a k e m D=>ul 5 k z λk=>?_;cases h;exact B4 k z (RV.cA k z SY (D.at (m.a 2 z) 0 10 z z z) z) (RV.tmp k z) ⟨_,_,z,m.ext,⟨_,[],_,[],_,[],z,z,(A0 _),(A0 _),(A0 _),by simpa [EC] using (m.sl [] z).nd⟩,(A3 AD (A3 AD AD))⟩
 have h:=WG A h;refine rB k 21 z A λk=>oE h λ_ A h=>gl 5 [iF (Enc.ow_rd M) A,eF (m.q M 1 z) A 0] k z λk=>bT h k 26 z (λh k=>?_) λh k=>?_
 · refine oE h λ_ _ h=>hJ 8 [iF (Enc.ow_rd M) A,eF (m.q M 1 z) A 0] h k z (λh k=>?_) λh k=>?_
   · refine uc 2 k z λk=>sv k z (AN au k (cs:=#[I 0,I 0,I 0,I 0,I 0,I 0,.slice none 0 0,.slice none 0 0,I 0,.slice none 0 0]) (ps:=[]) z z AQ) λa k=>sT sizeOf37 m 2 Ao 0 k z z λ_ a k e m A=>ul 5 k z λk=>?_;cases h;exact B4 k z (RV.cA k z SY (A.at (m.a 2 z) 0 10 z z z) z) (RV.tmp k z) ⟨_,_,z,m.ext,⟨_,[],_,[],_,[],z,z,(A0 _),(A0 _),(A0 _),by simpa [EC] using (m.sl [] z).nd⟩,(A3 AD (A3 AD AD))⟩
   exact uc 2 k z λk=>⟨k.p z,m.sl [2,0,1] z,h⟩
 exact ul 11 k z λk=>⟨k.p z,m.sl [2,0,1] z,h⟩
end Go.Proofs.YtdgpkmgnjdpieaaGreatDoor
