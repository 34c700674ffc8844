/- FnTop: the walks of .. -/
import Derived.Test.YtdgpkmgnjdpieaaGreatDoorTopBWs1
set_option maxRecDepth 20000
set_option linter.unusedSimpArgs false
set_option linter.unusedVariables false
set_option linter.unnecessarySimpa false
namespace Go.Proofs.YtdgpkmgnjdpieaaGreatDoor
open Go Go.RowKit
open Enc (rd ow)
open Arg (argv)
open Ret (retv)
open Go.Proofs.Tryz
theorem iD {fu D A r} (h:V3 fu A=some r):cS 186 [.agg (Flat.e (A)).toArray] D (.bool (r)):=by
 refine eg func186 z ntmps186 z λk m=>uc 2 k z λk=>AW m k z z z z z z λ_ _ a k m e A=>oE h λ_ D h=>gl 7 [bF m 0 A z] k z λk=>cC k m call169 z (XV D) λ_ e a k m=>pN 1 k z λa k=>bT h k 6 z (λh k=>?_) λh k=>?_
 · refine oE h λ_ D h=>gl 2 [bF m 0 A z] k z λk=>cC k m call241 z (IR D) λ_ e a k m=>pN 2 k z λa k=>bT h k 11 z (λh k=>?_) λh k=>?_
   · refine oE h λ_ D h=>gl 2 [bF m 0 A z] k z λk=>cC k m call241 z (IR D) λ_ e a k m=>pN 2 k z λa k=>bT h k 16 z (λh k=>?_) λh k=>?_
     · refine oE h λ_ D h=>gl 2 [bF m 0 A z] k z λk=>cC k m call241 z (IR D) λ_ e a k m=>pN 2 k z λa k=>bT h k 21 z (λh k=>?_) λh k=>?_
       · refine oE h λ_ D h=>gl 2 [bF m 0 A z] k z λk=>cC k m call43 z (A4 D) λ_ e a k m=>pN 2 k z λa k=>bT h k 26 z (λh k=>?_) λh k=>?_
         · refine oE h λ_ D h=>gl 2 [bF m 0 A z] k z λk=>cC k m call43 z (A4 D) λ_ e a k m=>pN 2 k z λa k=>bT h k 31 z (λh k=>?_) λh k=>?_
           · refine oE h λ_ D h=>gl 2 [bF m 0 A z] k z λk=>cC k m call43 z (A4 D) λ_ e a k m=>ul 5 k z λk=>fS h k m z z
           refine ul 8 k z λk=>fS h k m z z
         refine ul 13 k z λk=>fS h k m z z
       refine ul 18 k z λk=>fS h k m z z
     refine ul 23 k z λk=>fS h k m z z
   refine ul 28 k z λk=>fS h k m z z
 refine ul 33 k z λk=>fS h k m z z
theorem dE {fu E J A L r} (h:R9 fu J=some r) (D:rd E L A J):cS 113 [.agg A.toArray] E (.bool (r)):=by
 refine eg func113 z ntmps113 z λk m=>?_;obtain ⟨_,_,_,_,_,_,rfl,rfl,L,Q,M⟩:=D;refine uc 2 k z λk=>AW m k z z z z z z λD O a k m e A=>ul 3 k z λk=>cg (λa w=>K 111 [(1,pt D)] a∧St [] E w [([D],O)]∧Tw fu J=some r) ?_ ?_
 · rintro a _ ⟨k,m,h⟩;refine uc 7 k z λk=>lG (λn a w=>∃ N,K 111 [(1,pt D),(3,I N)] a∧St [] E w [([D],O)]∧E6 fu J n N=some r) ?_ fu ?_
   · rintro T a _ ⟨N,k,m,h⟩;refine gJ 10 [bF m 0 A z,lF L] h k z (λh k=>?_) λh k=>?_
     · refine uc 2 k z λk=>cg (λa w=>K 111 [(1,pt D),(3,I N)] a∧St [] E w [([D],O)]∧Tg fu (E6 fu J T) N=some r) ?_ ?_
       · rintro a _ ⟨k,m,h⟩;exact uc 6 k z λk=>⟨_,k.p z,m.f z,h⟩
       refine o2 h λ_ N _ T h=>gc 9 [bF m 0 A z,iF L N,eF (m.r L) N 0] k z λk=>cC k m call43 z (A4 T) λ_ e a k m=>pN 2 k z λa k=>bT h k 63 z (λh k=>?_) λh k=>?_
       · refine ul 23 k z λk=>fS h k m z z
       refine o2 h λ_ _ _ T h=>gl 6 [bF m 0 A z,iF L N,eF (m.r L) N 1] k z λk=>cC k m call43 z (A4 T) λ_ e a k m=>lJ 4 h k z (λh k=>?_) λh k=>?_
       · refine uc 11 k z λk=>fS h k m z z
       exact uc 3 k z λk=>⟨k.p z,m.f z,h⟩
     refine uc 12 k z λk=>lG (λn a w=>∃ N,K 111 [(1,pt D),(4,I N)] a∧St [] E w [([D],O)]∧E7 fu J n N=some r) ?_ fu ?_
     · rintro _ a _ ⟨N,k,m,h⟩;refine gJ 10 [bF m 0 A z,lF Q] h k z (λh k=>?_) λh k=>?_
       · refine o2 h λ_ N _ T h=>gc 11 [bF m 0 A z,iF Q N,eA (m.r Q) N] k z λk=>cC k m call185 z (iE T) λ_ e a k m=>lJ 3 h k z (λh k=>?_) λh k=>?_
         · refine uc 11 k z λk=>fS h k m z z
         exact uc 9 k z λk=>⟨_,k.p z,m.f z,h⟩
       refine uc 17 k z λk=>lG (λn a w=>∃ N T,K 111 [(1,pt D),(5,I N),(6,I T)] a∧St [] E w [([D],O)]∧E3 fu J n N T=some r) ?_ fu ?_
       · rintro _ a _ ⟨N,T,k,m,h⟩;refine gJ 10 [bF m 0 A z,lF M] h k z (λh k=>?_) λh k=>?_
         · refine o2 h λ_ D _ E h=>gc 12 [bF m 0 A z,iF M D,eA (m.r M) D] k z λk=>cC k m call186 z (iD E) λ_ e a k m=>lJ 3 h k z (λh k=>?_) λh k=>?_
           · refine uc 12 k z λk=>fS h k m z z
           exact oE h λ_ _ h=>gc 21 [bF m 0 A z,iF M D,eF (m.r M) D 6] k z λk=>⟨_,_,k.p z,m.f z,h⟩
         refine uc 13 k z λk=>fS h k m z z
       exact ⟨_,_,k.p z,m.f z,h⟩
     exact ⟨_,k.p z,m.f z,h⟩
   exact ⟨_,k.p z,m.f z,h⟩
 refine oE h λ_ D h=>gc 4 [bF m 0 A z] k z λk=>cC k m call43 z (A4 D) λ_ e a k m=>pN 2 k z λa k=>bT h k 11 z (λh k=>?_) λh k=>?_
 · refine ul 46 k z λk=>fS h k m z z
 refine oE h λ_ D h=>gl 2 [bA m 0 A z] k z λk=>cC k m call184 z (R2 D) λ_ e a k m=>pN 3 k z λa k=>bT h k 17 z (λh k=>?_) λh k=>?_
 · refine ul 40 k z λk=>fS h k m z z
 refine oE h λ_ D h=>gl 2 [bF m 0 A z] k z λk=>cC k m call43 z (A4 D) λ_ e a k m=>pN 3 k z λa k=>bT h k 23 z (λh k=>?_) λh k=>?_
 · refine ul 34 k z λk=>fS h k m z z
 refine gl 6 [bF m 0 A z,lF L] k z λk=>bT h k 29 z (λh k=>?_) λh k=>?_
 · refine ul 28 k z λk=>fS h k m z z
 refine oE h λ_ D h=>gl 3 [bF m 0 A z,lF Q] k z λk=>cC k m call43 z (A4 D) λ_ e a k m=>pN 3 k z λa k=>bT h k 36 z (λh k=>?_) λh k=>?_
 · refine ul 21 k z λk=>fS h k m z z
 refine oE h λ_ D h=>gl 2 [bF m 0 A z] k z λk=>cC k m call169 z (XV D) λ_ e a k m=>pN 3 k z λa k=>bT h k 42 z (λh k=>?_) λh k=>?_
 · refine ul 15 k z λk=>fS h k m z z
 refine hJ 7 [bF m 0 A z,lF M] h k z (λh k=>?_) λh k=>?_
 · refine uc 7 k z λk=>fS h k m z z
 exact uc 2 k z λk=>⟨k.p z,m.f z,h⟩
theorem MH {fu E L A D r} (h:HP fu L=some r) (J:rd E D A L):cS 98 [.agg A.toArray] E (.tuple #[.agg (Flat.e r.1).toArray,.bool (r.2)]):=by
 refine eg func98 z ntmps98 z λk m=>?_;obtain ⟨_,_,_,_,_,_,rfl,rfl,_,D,_⟩:=J;refine uc 2 k z λk=>AW m k z z z z z z λM T a k m e J=>AP m k zeroValue102 z z z z z λN Q a k m e O=>ul 10 k z λk=>lG (λn a w=>∃ A,K 27 [(1,pt M),(2,pt N),(4,I A)] a∧St [] E w [([M],T),([N],Q)]∧II fu L n A=some r) ?_ fu ?_
 · rintro _ a _ ⟨A,k,m,h⟩;refine gJ 10 [bF m 0 J z,lF D] h k z (λh k=>?_) λh k=>?_
   · refine uc 5 k z λk=>dI [] m z λA m s=>oE h λ_ E h=>dr [2,0,1,3,4,5,6,7,8] 9 [bF A 0 J z,iF D E,eF (A.r D) E 0,bF A 0 J z] k z s λk=>dD ((AF ?_));refine cJ h k z (λh=>?_) λh=>?_
     · refine oE h λ_ _ h=>gc 7 [bF m 0 J z,iF D E,eA (m.r D) E] k z λk=>sT sizeOf102 m 1 O 0 k z z λ_ a k e m A=>ul 9 k z λk=>?_;cases h;exact B4 k z (RV.cA k z YT (A.at (m.a 1 z) 0 7 z z z) z) (RV.tmp k z) ⟨z,m.ext⟩
     exact uc 9 k z λk=>⟨_,k.p z,m.f z,h⟩
   refine uc 7 k z λk=>sv k z (AN W1 k (cs:=#[I 0,I 0,I 0,I 0,I 0,I 0,I 0]) (ps:=[]) z z AQ) λa k=>sT sizeOf102 m 1 O 0 k z z λ_ a k e m A=>ul 4 k z λk=>?_;cases h;exact B4 k z (RV.cA k z YT (A.at (m.a 1 z) 0 7 z z z) z) (RV.tmp k z) ⟨z,m.ext⟩
 exact ⟨_,k.p z,m.sl [1,0] z,h⟩
theorem il {fu M J A E r} (h:Ua fu J=some r) (D:rd M E A J):cS 114 [.agg A.toArray] M (.bool (r)):=by
 refine eg func114 z ntmps114 z λk m=>?_;obtain ⟨_,_,_,_,_,_,rfl,rfl,O,N,L⟩:=D;refine uc 2 k z λk=>AW m k z z z z z z λE Q a k m e D=>ul 10 k z λk=>lG (λn a w=>∃ A,K 102 [(1,pt E),(3,I A)] a∧St [] M w [([E],Q)]∧B8 fu J n A=some r) ?_ fu ?_
 · rintro U a _ ⟨A,k,m,h⟩;refine gJ 10 [bF m 0 D z,lF N] h k z (λh k=>?_) λh k=>?_
   · refine uc 10 k z λk=>lG (λn a w=>∃ T,K 102 [(1,pt E),(3,I A),(4,I T)] a∧St [] M w [([E],Q)]∧FM fu (B8 fu J U) J A n T=some r) ?_ fu ?_
     · rintro _ a _ ⟨T,k,m,h⟩;refine uJ 8 h k z (λh k=>?_) λh k=>?_
       · refine uc 5 k z λk=>dI [] m z λA m s=>o2 h λ_ T _ U h=>dr [2,8,0,1,3,4,5,6,7,9,10,11,12] 13 [bF A 0 D z,iF N T,eF (A.r N) T 0,bF A 0 D z,iF N U,eF (A.r N) U 0] k z s λk=>dD ((AF ?_));refine cJ h k z (λh=>?_) λh=>?_
         · refine uc 15 k z λk=>fS h k m z z
         exact uc 9 k z λk=>⟨_,k.p z,m.f z,h⟩
       exact uc 12 k z λk=>⟨_,k.p z,m.f z,h⟩
     exact ⟨_,k.p z,m.f z,h⟩
   refine uc 12 k z λk=>lG (λn a w=>∃ T,K 102 [(1,pt E),(5,I T)] a∧St [] M w [([E],Q)]∧B0 fu J n T=some r) ?_ fu ?_
   · rintro V a _ ⟨T,k,m,h⟩;refine gJ 10 [bF m 0 D z,lF L] h k z (λh k=>?_) λh k=>?_
     · refine uc 6 k z λk=>dI [] m z λA m s=>oE h λ_ U h=>dr [2,0,1,3,4,5,6,7,8] 9 [bF A 0 D z,iF L U,eF (A.r L) U 5,bF A 0 D z] k z s λk=>dD ((AF ?_));refine cJ h k z (λh=>?_) λh=>?_
       · refine uc 12 k z λk=>fS h k m z z
       refine uc 8 k z λk=>lG (λn a w=>∃ U,K 102 [(1,pt E),(5,I T),(6,I U)] a∧St [] M w [([E],Q)]∧FQ fu (B0 fu J V) J T n U=some r) ?_ fu ?_
       · rintro _ a _ ⟨U,k,m,h⟩;refine uJ 8 h k z (λh k=>?_) λh k=>?_
         · refine uc 5 k z λk=>dI [] m z λA m s=>o2 h λ_ U _ T h=>dr [2,8,0,1,3,4,5,6,7,9,10,11,12] 13 [bF A 0 D z,iF L U,eF (A.r L) U 0,bF A 0 D z,iF L T,eF (A.r L) T 0] k z s λk=>dD ((AF ?_));refine cJ h k z (λh=>?_) λh=>?_
           · refine uc 15 k z λk=>fS h k m z z
           exact uc 9 k z λk=>⟨_,k.p z,m.f z,h⟩
         exact uc 12 k z λk=>⟨_,k.p z,m.f z,h⟩
       exact ⟨_,k.p z,m.f z,h⟩
     refine uc 12 k z λk=>lG (λn a w=>∃ T,K 102 [(1,pt E),(7,I T)] a∧St [] M w [([E],Q)]∧ER fu J n T=some r) ?_ fu ?_
     · rintro U a _ ⟨T,k,m,h⟩;refine gJ 10 [bF m 0 D z,lF O] h k z (λh k=>?_) λh k=>?_
       · refine uc 2 k z λk=>cg (λa w=>K 102 [(1,pt E),(7,I T)] a∧St [] M w [([E],Q)]∧TU fu (ER fu J U) T=some r) ?_ ?_
         · rintro a _ ⟨k,m,h⟩;exact uc 6 k z λk=>⟨_,k.p z,m.f z,h⟩
         refine uc 2 k z λk=>dI [] m z λA m s=>oE h λ_ E h=>dr [2,0,1,3,4,5,6,7,8,9] 10 [bF A 0 D z,iF O E,eF (A.r O) E 0,bF A 0 D z] k z s λk=>bT h k 85 z (λh k=>?_) λh k=>?_
         · refine dM [10,11,12,13,14,15,16,17,18,19] 10 z k z s λa k=>dD ?_;refine (AF ?_);refine uc 12 k z λk=>fS h k m z z
         refine oE h λ_ _ h=>dr [12,10,11,13,14,15,16,17,18,19] 10 [bF A 0 D z,iF O E,eF (A.r O) E 1,bF A 0 D z] k z s λk=>dD ?_;refine (AF ?_);refine cJ h k z (λh=>?_) λh=>?_
         · refine uc 11 k z λk=>fS h k m z z
         exact uc 3 k z λk=>⟨k.p z,m.f z,h⟩
       refine oE h λ_ A h=>gc 8 [bA m 0 D z] k z λk=>cC k m call98 z (MH A (AE (m.r O) (m.r N) (m.r L))) λ_ e a k m=>pN 3 k z λa k=>AP m k zeroValue102 z z z z z λ_ _ a k m e A=>sT sizeOf102 m 0 A 0 k z z λ_ a k e m _=>ul 10 k z λk=>fS h k m z z
     exact ⟨_,k.p z,m.f z,h⟩
   exact ⟨_,k.p z,m.f z,h⟩
 exact ⟨_,k.p z,m.f z,h⟩
theorem K3 {fu M L D A N E r} (h:GQ fu L D A=some r) (J:rd M E [N] L):cS 187 [N,I D,I A] M (.bool (r)):=by
 refine eg func187 z ntmps187 z λk m=>uc 12 k z λk=>lG (λn a w=>∃ E,K 30 [(0,N),(1,I D),(2,I A),(7,I E)] a∧St [] M w []∧IC fu L D A n E=some r) ?_ fu ?_
 · rintro O a _ ⟨E,k,m,h⟩;refine gJ 9 [lF J] h k z (λh k=>?_) λh k=>?_
   · refine uc 2 k z λk=>cg (λa w=>K 30 [(0,N),(1,I D),(2,I A),(7,I E)] a∧St [] M w []∧PM fu (IC fu L D A O) E=some r) ?_ ?_
     · rintro a _ ⟨k,m,h⟩;exact uc 6 k z λk=>⟨_,k.p z,m.f z,h⟩
     refine oE h λ_ A h=>gc 11 [iF J A,eF (m.r J) A 0] k z λk=>bT h k 21 z (λh k=>?_) λh k=>?_
     · refine oE h λ_ _ h=>hJ 10 [iF J A,eF (m.r J) A 1] h k z (λh k=>?_) λh k=>?_
       · refine uc 11 k z λk=>fS h k m z z
       exact uc 3 k z λk=>⟨k.p z,m.f z,h⟩
     exact ul 14 k z λk=>⟨k.p z,m.f z,h⟩
   refine uc 11 k z λk=>fS h k m z z
 exact ⟨_,k.p z,m.f z,h⟩
theorem eN {fu M D A N E r} (h:TW fu D A=some r) (J:rd M E [N] D):cS 115 [N,I A] M (.bool (r)):=by
 refine eg func115 z ntmps115 z λk m=>oE h λ_ E h=>uc 9 k z λk=>cC k m call43 z (A4 E) λ_ e a k m=>lJ 3 h k z (λh k=>?_) λh k=>?_
 · refine uc 7 k z λk=>fS h k m z z
 refine uc 9 k z λk=>lG (λn a w=>∃ E,K 41 [(0,N),(1,I A),(5,I E)] a∧St [] M w []∧EN fu D A n E=some r) ?_ fu ?_
 · rintro O a _ ⟨E,k,m,h⟩;refine uJ 8 h k z (λh k=>?_) λh k=>?_
   · refine uc 10 k z λk=>lG (λn a w=>∃ L,K 41 [(0,N),(1,I A),(5,I E),(6,I L)] a∧St [] M w []∧FU fu (EN fu D A O) D A E n L=some r) ?_ fu ?_
     · rintro Q a _ ⟨L,k,m,h⟩;refine uJ 8 h k z (λh k=>?_) λh k=>?_
       · refine uc 2 k z λk=>cg (λa w=>K 41 [(0,N),(1,I A),(5,I E),(6,I L)] a∧St [] M w []∧NN fu (FU fu (EN fu D A O) D A E Q) L=some r) ?_ ?_
         · rintro a _ ⟨k,m,h⟩;exact uc 6 k z λk=>⟨_,k.p z,m.f z,h⟩
         refine uc 7 k z λk=>bT h k 23 z (λh k=>?_) λh k=>?_
         · refine pN 3 k z λa k=>oE h λ_ A h=>cC k m call187 z (K3 A (m.r J)) λ_ e a k m=>pN 3 k z λa k=>bT h k 30 z (λh k=>?_) λh k=>?_
           · refine ul 28 k z λk=>fS h k m z z
           refine pN 3 k z λa k=>oE h λ_ A h=>cC k m call187 z (K3 A (m.r J)) λ_ e a k m=>pN 3 k z λa k=>oE h λ_ A h=>cC k m call187 z (K3 A (m.r J)) λ_ e a k m=>sv k z (s0 k underlying4 z z z) λa k=>lJ 3 h k z (λh k=>?_) λh k=>?_
           · refine uc 15 k z λk=>fS h k m z z
           exact uc 3 k z λk=>⟨k.p z,m.f z,h⟩
         refine pN 10 k z λa k=>oE h λ_ A h=>cC k m call187 z (K3 A (m.r J)) λ_ e a k m=>pN 3 k z λa k=>oE h λ_ A h=>cC k m call187 z (K3 A (m.r J)) λ_ e a k m=>sv k z (s0 k underlying4 z z z) λa k=>lJ 3 h k z (λh k=>?_) λh k=>?_
         · refine uc 15 k z λk=>fS h k m z z
         exact uc 3 k z λk=>⟨k.p z,m.f z,h⟩
       exact uc 12 k z λk=>⟨_,k.p z,m.f z,h⟩
     exact ⟨_,k.p z,m.f z,h⟩
   refine uc 11 k z λk=>fS h k m z z
 exact ⟨_,k.p z,m.f z,h⟩
theorem YO {fu M n1 r} (h:ML fu n1=some r):cL 192 [I n1] M r:=by
 refine eg func192 z ntmps192 z λk m=>uc 7 k z λk=>sB AV m k z (by exact fN) λ_ _ _ a k m e A=>?_;have N:=AO A ([]:List Int) z z z;refine ul 10 k z λk=>lG (λn a w=>∃ J E D L A,K 16 [(0,I n1),(3,E),(4,I A)] a∧St [] M w [(D,L)]∧ow L D [E] J∧H6 fu n1 n J A=some r) ?_ fu ?_
 · rintro _ a _ ⟨J,E,D,L,A,k,m,D,h⟩;refine uJ 8 h k z (λh k=>?_) λh k=>?_
   · refine uc 7 k z λk=>sB AV m k z (by exact fC z fN) λ_ _ _ a k m e J=>?_;have E:=AO J ([A]:List Int) z z z;exact oE h λ_ A h=>BX A AV z m 1 D (News.rd (m.q E 0 z)) z z k z z z z z z z λ_ _ _ a k e m A=>ul 10 k z λk=>⟨_,_,_,_,_,k.p z,m.sl [1] z,A,h⟩
   exact uc 12 k z λk=>fL h k m D 0 z z
 exact ⟨_,_,_,_,_,k.p z,m.f z,N,h⟩
theorem cN (fu:Nat):∀ (N:Nat) {L:World} (M:List Int) (U:List Int) (A:Bool) {T:Value} {Z:List Nat} (J:rd L Z [T] M) {Q:Value} {Y:List Nat} (E:rd L Y [Q] U) {r:(List Int)} (h:LC fu N M U A=some r),Calls Tryz.prog 191 #[T,Q,.bool (A)] L λe w=>∃ (V:Value) (G0:List Nat),e=.returned (V)∧Ext [] L w∧ow w G0 [V] r∧(∀ b∈G0,L.heap.size≤b):=by
 intro N
 induction N with
 | zero =>
   intros
   rename_i h
   exact nS h
 | succ N ih =>
 intro L M U A T Z J Q Y E r h;refine eg (vs:=[_,_,_]) func191 z ntmps191 z λk m=>gJ 13 [lF E] h k z (λh k=>?_) λh k=>?_
 · refine uc 2 k z λk=>sB AV m k z (by exact fN) λ_ _ _ a k m e N=>?_;have Q:=AO N ([]:List Int) z z z;exact pN 1 k z λa k=>oE h λ_ N h=>BX N AV z m 0 Q (News.rd (m.r E)) z z k z z z z z z z λ_ _ _ a k e m N=>ul 5 k z λk=>fL h k m N 0 z z
 refine oE h λ_ N h=>gc 15 [lF E] k z λk=>ax E N k FX z z z z z z λ_ a k Q=>pN 1 k z λa k=>oE h λAx N h=>sC k call191 z (ih _ _ _ (m.r J) (m.r Q) N) λ_ Bk O=>?_;obtain ⟨Bh,Bb,rfl,e,D,N⟩:=O;refine ⟨_,z,λa k=>?_⟩;have m:=m.nw e N D;refine oE h λ_ N h=>ul 8 k z λk=>s5 E N k FX z z z z z z λ_ a k E=>pN 1 k z λa k=>oE h λBc N h=>sC k call191 z (ih _ _ _ (m.r J) (m.r E) N) λ_ Bg O=>?_;obtain ⟨Bn,Bd,rfl,e,E,N⟩:=O;refine ⟨_,z,λa k=>?_⟩;have m:=m.nw e N E;refine ul 5 k z λk=>sB AV m k z (by exact fN) λ_ _ _ a k m e N=>?_;have Cv:=AO N ([]:List Int) z z z;refine ul 15 k z λk=>lG (λn a w=>∃ U Z Y V O Q,K 132 [(0,T),(2,.bool (A)),(8,Bh),(9,Bn),(10,Z),(11,I O),(12,I Q)] a∧St [] L w [(Bb,Bk),(Bd,Bg),(Y,V)]∧ow V Y [Z] U∧DK fu M A Ax Bc n U O Q=some r) ?_ fu ?_
 · rintro Cq a _ ⟨U,Z,Y,V,O,Q,k,m,N,h⟩;refine cg (λa w=>K 132 [(0,T),(2,.bool (A)),(8,Bh),(9,Bn),(10,Z),(11,I O),(12,I Q)] a∧St [] L w [(Bb,Bk),(Bd,Bg),(Y,V)]∧KP fu (DK fu M A Ax Bc Cq) M A Ax Bc U O Q=some r) ?_ ?_
   · rintro a _ ⟨k,m,h⟩;refine gJ 11 [lF (Enc.ow_rd E)] h k z (λh k=>?_) λh k=>?_
     · refine oE h λL A h=>gc 7 [iF (Enc.ow_rd D) A,eF (m.q D 0 z) A 0] k z λk=>sB AV m k z (by exact fC z fN) λ_ _ _ a k m e M=>?_;have A:=AO M ([L]:List Int) z z z;exact oE h λ_ L h=>BX L AV z m 3 N (News.rd (m.q A 0 z)) z z k z z z z z z z λ_ _ _ a k e m A=>ul 11 k z λk=>⟨_,_,_,_,_,_,k.p z,m.sl [1,2,3] z,A,h⟩
     refine gJ 9 [lF (Enc.ow_rd D)] h k z (λh k=>?_) λh k=>?_
     · refine oE h λL A h=>gc 7 [iF (Enc.ow_rd E) A,eF (m.q E 1 z) A 0] k z λk=>sB AV m k z (by exact fC z fN) λ_ _ _ a k m e M=>?_;have A:=AO M ([L]:List Int) z z z;exact oE h λ_ L h=>BX L AV z m 3 N (News.rd (m.q A 0 z)) z z k z z z z z z z λ_ _ _ a k e m A=>ul 11 k z λk=>⟨_,_,_,_,_,_,k.p z,m.sl [1,2,3] z,A,h⟩
     refine uc 1 k z λk=>dI [] m z λA m s=>o2 h λU M _ Q h=>o2 h λT L _ O h=>dr [0,1,2,7,8,9,3,4,5,6,10,11,12,13,14,15] 16 [iF (Enc.ow_rd E) M,eF (A.q E 1 z) M 0,iF J Q,eF (A.r J) Q 0,iF (Enc.ow_rd D) L,eF (A.q D 0 z) L 0,iF J O,eF (A.r J) O 0] k z s λk=>bT h k 98 z (λh k=>?_) λh k=>?_
     · refine dM [16,17,18,19] 4 z k z s λa k=>bT h k 102 z (λh k=>?_) λh k=>?_
       · refine dM [20,21,22,23,24,25,26,27,28,29,30,31,32,33,34,35,36,37,38,39] 20 z k z s λa k=>dD ?_;refine (AF ?_);refine oE h λ_ _ h=>gc 8 [iF (Enc.ow_rd E) M,eF (m.q E 1 z) M 0] k z λk=>sB AV m k z (by exact fC z fN) λ_ _ _ a k m e V=>?_;have Y:=AO V ([U]:List Int) z z z;exact oE h λ_ V h=>BX V AV z m 3 N (News.rd (m.q Y 0 z)) z z k z z z z z z z λ_ _ _ a k e m V=>ul 11 k z λk=>⟨_,_,_,_,_,_,k.p z,m.sl [1,2,3] z,V,h⟩
       refine o2 h λ_ _ _ _ h=>o2 h λ_ _ _ _ h=>dr [20,21,22,27,28,29,23,24,25,26,30,31,32,33,34,35] 16 [iF (Enc.ow_rd E) M,eF (A.q E 1 z) M 0,iF J Q,eF (A.r J) Q 0,iF (Enc.ow_rd D) L,eF (A.q D 0 z) L 0,iF J O,eF (A.r J) O 0] k z s λk=>bT h k 118 z (λh k=>?_) λh k=>?_
       · refine dM [36,37,38,39] 4 z k z s λa k=>dD ?_;refine (AF ?_);refine cJ h k z (λh=>?_) λh=>?_
         · refine oE h λ_ _ h=>gc 7 [iF (Enc.ow_rd E) M,eF (m.q E 1 z) M 0] k z λk=>sB AV m k z (by exact fC z fN) λ_ _ _ a k m e V=>?_;have Y:=AO V ([U]:List Int) z z z;exact oE h λ_ V h=>BX V AV z m 3 N (News.rd (m.q Y 0 z)) z z k z z z z z z z λ_ _ _ a k e m Ez=>ul 11 k z λk=>⟨_,_,_,_,_,_,k.p z,m.sl [1,2,3] z,Ez,h⟩
         refine oE h λGc _ h=>gc 7 [iF (Enc.ow_rd D) L,eF (m.q D 0 z) L 0] k z λk=>sB AV m k z (by exact fC z fN) λ_ _ _ a k m e V=>?_;have Y:=AO V ([T]:List Int) z z z;exact oE h λ_ V h=>BX V AV z m 3 N (News.rd (m.q Y 0 z)) z z k z z z z z z z λ_ _ _ a k e m V=>ul 11 k z λk=>⟨_,_,_,_,_,_,k.p z,m.sl [1,2,3] z,V,h⟩
       refine dM [36,37,38,39] 4 z k z s λa k=>dD ?_;refine (AF ?_);refine oE h λ_ _ h=>gc 8 [iF (Enc.ow_rd D) L,eF (m.q D 0 z) L 0] k z λk=>sB AV m k z (by exact fC z fN) λ_ _ _ a k m e V=>?_;have Y:=AO V ([T]:List Int) z z z;exact oE h λ_ V h=>BX V AV z m 3 N (News.rd (m.q Y 0 z)) z z k z z z z z z z λ_ _ _ a k e m V=>ul 11 k z λk=>⟨_,_,_,_,_,_,k.p z,m.sl [1,2,3] z,V,h⟩
     refine o2 h λ_ _ _ _ h=>o2 h λ_ _ _ _ h=>dr [16,17,18,19,20,21,22,27,28,29,23,24,25,26,30,31,32,33,34,35] 20 [iF (Enc.ow_rd E) M,eF (A.q E 1 z) M 0,iF J Q,eF (A.r J) Q 0,iF (Enc.ow_rd D) L,eF (A.q D 0 z) L 0,iF J O,eF (A.r J) O 0] k z s λk=>bT h k 118 z (λh k=>?_) λh k=>?_
     · refine dM [36,37,38,39] 4 z k z s λa k=>dD ?_;refine (AF ?_);refine cJ h k z (λh=>?_) λh=>?_
       · refine oE h λ_ _ h=>gc 7 [iF (Enc.ow_rd E) M,eF (m.q E 1 z) M 0] k z λk=>sB AV m k z (by exact fC z fN) λ_ _ _ a k m e A=>?_;have J:=AO A ([U]:List Int) z z z;exact oE h λ_ A h=>BX A AV z m 3 N (News.rd (m.q J 0 z)) z z k z z z z z z z λ_ _ _ a k e m A=>ul 11 k z λk=>⟨_,_,_,_,_,_,k.p z,m.sl [1,2,3] z,A,h⟩
       refine oE h λ_ _ h=>gc 7 [iF (Enc.ow_rd D) L,eF (m.q D 0 z) L 0] k z λk=>sB AV m k z (by exact fC z fN) λ_ _ _ a k m e A=>?_;have J:=AO A ([T]:List Int) z z z;exact oE h λ_ A h=>BX A AV z m 3 N (News.rd (m.q J 0 z)) z z k z z z z z z z λ_ _ _ a k e m A=>ul 11 k z λk=>⟨_,_,_,_,_,_,k.p z,m.sl [1,2,3] z,A,h⟩
     refine dM [36,37,38,39] 4 z k z s λa k=>dD ?_;refine (AF ?_);refine oE h λ_ _ h=>gc 8 [iF (Enc.ow_rd D) L,eF (m.q D 0 z) L 0] k z λk=>sB AV m k z (by exact fC z fN) λ_ _ _ a k m e A=>?_;have J:=AO A ([T]:List Int) z z z;exact oE h λ_ A h=>BX A AV z m 3 N (News.rd (m.q J 0 z)) z z k z z z z z z z λ_ _ _ a k e m A=>ul 11 k z λk=>⟨_,_,_,_,_,_,k.p z,m.sl [1,2,3] z,A,h⟩
   refine gc 7 [lF (Enc.ow_rd D)] k z λk=>bT h k 39 z (λh k=>?_) λh k=>?_
   · exact ul 10 k z λk=>⟨k.p z,m.f z,h⟩
   refine hJ 7 [lF (Enc.ow_rd E)] h k z (λh k=>?_) λh k=>?_
   · exact uc 2 k z λk=>⟨k.p z,m.f z,h⟩
   exact uc 12 k z λk=>fL h k m N 2 z z
 exact ⟨_,_,_,_,_,_,k.p z,m.sl [2,1,0] z,Cv,h⟩
theorem Zu {fu:Nat} {A:World} {J:List Int} {D:List Int} {E:Bool} {L:Value} {N:List Nat} {M:Value} {Q:List Nat} {r:(List Int)} (h:N7 fu J D E=some r) (O:rd A N [L] J) (N:rd A Q [M] D):Calls Tryz.prog 191 #[L,M,.bool (E)] A λe w=>∃ (L:Value) (M:List Nat),e=.returned (L)∧Ext [] A w∧ow w M [L] r∧(∀ b∈M,A.heap.size≤b) :=
  cN fu fu J D E O N h
theorem ae {fu D A E M r} (h:RN fu A=some r) (J:rd D M [E] A):cL 120 [E] D r:=by
 refine eg func120 z ntmps120 z λk m=>oE h λ_ A h=>gc 10 [lF J] k z λk=>sL k m call192 z (YO A) λ_ _ _ A k m=>oE h λ_ D h=>sC k call191 z (Zu D (m.r J) (m.q A 0 z)) λ_ _ L=>?_;obtain ⟨_,_,rfl,e,A,D⟩:=L;refine ⟨_,z,λa k=>?_⟩;have m:=m.nw e D A;exact ul 4 k z λk=>fL h k m A 0 z z
theorem Zn {fu D E A J r} (h:OT fu E A J=some r):cL 168 [I E,I A,I J] D r:=by
 refine eg func168 z ntmps168 z λk m=>uc 10 k z λk=>sB AV m k z (by exact fC z (fC z (fC z fN))) λ_ _ _ a k m e L=>?_;have D:=AO L ([E,A,J]:List Int) z z z;refine oE h λ_ A h=>ul 6 k z λk=>sL k m call120 z (ae A (m.q D 0 z)) λ_ _ _ E k m=>ul 4 k z λk=>dI [] m z λA m s=>o2 h λ_ O V J h=>o2 h λ_ L U Q h=>o2 h λ_ N T M h=>dr [0,1,6,7,12,13,2,3,4,5,8,9,10,11,14,15,16,17] 18 [iF (Enc.ow_rd E) O,eF (A.q E 0 z) O 0,iF (Enc.ow_rd D) J,eF (A.q D 1 z) J 0,iF (Enc.ow_rd E) L,eF (A.q E 0 z) L 0,iF (Enc.ow_rd D) Q,eF (A.q D 1 z) Q 0,iF (Enc.ow_rd E) N,eF (A.q E 0 z) N 0,iF (Enc.ow_rd D) M,eF (A.q D 1 z) M 0] k z s λk=>dG 18 z (BD AV m k z z z z z z z A1 z (by exact fC z (fC z (fC z fN))) λ_ _ _ a k m e D A=>?_);have E:=s.lo A;have A:=AO D ([V,U,T]:List Int) z z z;refine ns s e λs=>dM [19] 1 z k z s λa k=>dD ?_;refine (AF ?_);refine wp_ret ?_;exact fL h k m A 0 z z
theorem Zi {fu E D A r} (h:TL fu D A=some r):cS 99 [.agg (Flat.e (D)).toArray,.agg (Flat.e (A)).toArray] E (.bool (r)):=by
 refine eg func99 z ntmps99 z λk m=>uc 2 k z λk=>AW m k z z z z z z λ_ _ a k m e J=>AW m k z z z z z z λ_ _ a k m e L=>oE h λ_ A h=>gl 11 [bF m 1 J z,bF m 1 J z,bF m 1 J z] k z λk=>sL k m call168 z (Zn A) λ_ _ _ E k m=>oE h λ_ A h=>gl 11 [bF m 1 L z,bF m 1 L z,bF m 1 L z] k z λk=>sL k m call168 z (Zn A) λ_ _ _ D k m=>ul 4 k z λk=>dI [] m z λA m s=>o2 h λ_ M _ N h=>dr [0,3,1,2,4,5,6,7] 8 [iF (Enc.ow_rd E) M,eF (A.q E 1 z) M 0,iF (Enc.ow_rd D) N,eF (A.q D 0 z) N 0] k z s λk=>bT h k 28 z (λh k=>?_) λh k=>?_
 · refine o2 h λ_ N _ M h=>dr [8,11,9,10,12,13,14,15,16] 9 [iF (Enc.ow_rd E) N,eF (A.q E 1 z) N 0,iF (Enc.ow_rd D) M,eF (A.q D 0 z) M 0] k z s λk=>bT h k 37 z (λh k=>?_) λh k=>?_
   · refine o2 h λ_ N _ M h=>dr [17,20,18,19,21,22,23,24,25] 9 [iF (Enc.ow_rd E) N,eF (A.q E 1 z) N 0,iF (Enc.ow_rd D) M,eF (A.q D 0 z) M 0] k z s λk=>bT h k 46 z (λh k=>?_) λh k=>?_
     · refine dr [26,27,28,29,30,31,32] 7 [bF A 3 J z,bF A 2 L z] k z s λk=>dD ?_;refine (AF ?_);refine wp_ret (fS h k m z z)
     refine dM [26,27,28,29,30,31,32] 7 z k z s λa k=>dD ?_;refine (AF ?_);refine wp_ret (fS h k m z z)
   refine dM [17,18,19,20,21,22,23,24,25,26,27,28,29,30,31,32] 16 z k z s λa k=>dD ?_;refine (AF ?_);refine wp_ret (fS h k m z z)
 refine dM [8,9,10,11,12,13,14,15,16,17,18,19,20,21,22,23,24,25,26,27,28,29,30,31,32] 25 z k z s λa k=>dD ?_;refine (AF ?_);refine wp_ret (fS h k m z z)
theorem GX {fu M N A D r} (h:EU fu N=some r) (L:rd M D A N):cS 54 [.agg A.toArray] M (I r):=by
 refine eg func54 z ntmps54 z λk m=>?_;obtain ⟨_,_,_,_,_,_,rfl,rfl,D,E,J⟩:=L;refine uc 2 k z λk=>AW m k z z z z z z λL O a k m e A=>oE h λ_ Q h=>gl 7 [bA m 0 A z] k z λk=>cC k m call113 z (dE Q (AE (m.r D) (m.r E) (m.r J))) λ_ e a k m=>lJ 3 h k z (λh k=>?_) λh k=>?_
 · refine uc 7 k z λk=>fS h k m z z
 refine oE h λ_ Q h=>gc 6 [bA m 0 A z] k z λk=>cC k m call114 z (il Q (AE (m.r D) (m.r E) (m.r J))) λ_ e a k m=>lJ 3 h k z (λh k=>?_) λh k=>?_
 · refine uc 7 k z λk=>fS h k m z z
 refine oE h λ_ Q h=>gc 9 [bF m 0 A z,bF m 0 A z] k z λk=>cC k m call115 z (eN Q (m.r D)) λ_ e a k m=>lJ 3 h k z (λh k=>?_) λh k=>?_
 · refine uc 7 k z λk=>fS h k m z z
 refine oE h λU Q h=>gc 5 [bA m 0 A z] k z λk=>cC k m call98 z (MH Q (AE (m.r D) (m.r E) (m.r J))) λ_ e a k m=>pN 3 k z λa k=>AP m k zeroValue102 z z z z z λQ _ a k m e D=>sT sizeOf102 m 0 D 0 k z z λT a k e m V=>ul 10 k z λk=>lG (λn a w=>∃ D,K 85 [(1,pt L),(3,pt Q),(5,I D)] a∧St [] M w [([L],O),([Q],T)]∧JL fu N U n D=some r) ?_ fu ?_
 · rintro _ a _ ⟨D,k,m,h⟩;refine gJ 10 [bF m 0 A z,lF J] h k z (λh k=>?_) λh k=>?_
   · refine uc 5 k z λk=>dI [] m z λD m s=>oE h λ_ Q h=>dr [2,0,1,3,4,5] 6 [bF D 0 A z,iF J Q,eA (D.r J) Q,bA D 1 V z] k z s λk=>dG 6 z (oE h λ_ D h=>?_);refine cC k m call99 z (Zi D) λ_ e a k m=>ns s e λs=>dM [7] 1 z k z s λa k=>dD ((AF ?_));refine cJ h k z (λh=>?_) λh=>?_
     · refine uc 11 k z λk=>fS h k m z z
     exact uc 9 k z λk=>⟨_,k.p z,m.f z,h⟩
   refine uc 12 k z λk=>lG (λn a w=>∃ D,K 85 [(1,pt L),(6,I D)] a∧St [] M w [([L],O)]∧HO fu N n D=some r) ?_ fu ?_
   · rintro J a _ ⟨D,k,m,h⟩;refine gJ 10 [bF m 0 A z,lF E] h k z (λh k=>?_) λh k=>?_
     · refine uc 2 k z λk=>cg (λa w=>K 85 [(1,pt L),(6,I D)] a∧St [] M w [([L],O)]∧WR fu (HO fu N J) D=some r) ?_ ?_
       · rintro a _ ⟨k,m,h⟩;exact uc 6 k z λk=>⟨_,k.p z,m.f z,h⟩
       refine oE h λ_ D h=>gc 8 [bF m 0 A z,iF E D,eA (m.r E) D] k z λk=>AP m k zeroValue102 z z z z z λ_ _ a k m e D=>sT sizeOf102 m 0 D 0 k z z λ_ a k e m D=>gl 11 [bF m 0 D z,bF m 1 A z] k z λk=>bT h k 58 z (λh k=>?_) λh k=>?_
       · refine ul 40 k z λk=>fS h k m z z
       refine gl 8 [bF m 0 D z,bF m 1 A z] k z λk=>bT h k 66 z (λh k=>?_) λh k=>?_
       · refine ul 32 k z λk=>fS h k m z z
       refine gl 8 [bF m 0 D z,bF m 1 A z] k z λk=>bT h k 74 z (λh k=>?_) λh k=>?_
       · refine ul 24 k z λk=>fS h k m z z
       refine hJ 12 [bF m 0 D z,bF m 0 D z,bF m 1 A z] h k z (λh k=>?_) λh k=>?_
       · refine uc 11 k z λk=>fS h k m z z
       exact uc 3 k z λk=>⟨k.p z,m.sl [1] z,h⟩
     refine uc 11 k z λk=>fS h k m z z
   exact ⟨_,k.p z,m.f z,h⟩
 exact ⟨_,k.p z,m.sl [1,0] z,h⟩
theorem ZZ {fu J Q E M D r} (h:RQ fu Q=some r) (T:bx J D [E,I Q.fi,I Q.fh] 75) (U:rd J M [E] Q.fb) (N:∀ b∈M,b∉[D]):Calls Tryz.prog 38 #[pt D] J λe w=>∃ (M:List Value) (V:List Nat),e=.returned (.agg M.toArray)∧Ext [D] J w∧ow w V M r.1∧(∀ b∈V,J.heap.size≤b)∧bx w D [E,I r.2.fi,I r.2.fh] 75:=by
 refine eg (vs:=[_]) func38 z ntmps38 z λk _=>?_;have m:=St.start1 J T.lt1 AD;refine uc 2 k z λk=>AP m k zeroValue37 z z z z z λb8 Bg a k m e Bn=>oE h λA E h=>ul 5 k z λk=>sC k call97 z (Y4 E (m.y T 1 z) (m.r1 U N) (m.disX 1 z (Enc.rd_lt U) N)) λ_ L Y=>?_;obtain ⟨_,Cl,rfl,e,O,M,Bh⟩:=Y;refine ⟨_,z,λa k=>?_⟩;have m:=m.mut 1 z e ([D]++Cl) (λb E=>(List.mem_append.1 E).elim (λE=>⟨.inl E,e.lt1 (m.ltF 1 z) b E⟩) (λE=>⟨.inr (M b E),(Enc.rd_lt (Enc.ow_rd O)) b E⟩)) (cw (m.ndF 1 z) (Enc.ow_nd O) (m.ltF 1 z) M);have m:=m.toFront 1 z;have m:=m.split2;have m:=m.toFront 1 z;obtain ⟨Ai,Aq,Af,As,Z,Be,rfl,rfl,N,M,E,_⟩:=O;have m:=m.split2;have m:=m.split2at1;refine AP m k zeroValue37 z z z z z λAv _ a k m e O=>sT sizeOf37 m 0 O 0 k z (AH z (AH z (AH z (AH z (AH z (AH z (AH (A5 (Enc.ow_rd N)) (AH (A5 (Enc.ow_rd M)) (AH z (AH (A5 (Enc.ow_rd E)) DR)))))))))) λ_ a k e m Bc=>oE h λ_ O h=>gl 6 [bA m 0 Bc z] k z λk=>cC k m call54 z (GX O (AE (m.q N 1 z) (m.q M 2 z) (m.q E 3 z))) λ_ e a k m=>lJ 3 h k z (λh k=>?_) λh k=>?_
 · refine uc 2 k z λk=>sv k z (AN u4 k (cs:=#[I 30,I 25,I 24,I 400]) (ps:=[(0,.const (I 30)),(1,.const (I 25)),(2,.const (I 24)),(3,.const (I 400))]) z z AQ) λa k=>sv k z (MV kR k z z) λa k=>sT sizeOf32 m 0 Bc 1 k z z λBj a k e m U=>oE h λAc O h=>gl 5 [bA m 0 U z] k z λk=>cC k m call98 z (MH O (show rd _ _ [I A.1.fc,I 30,I 25,I 24,I 400,I A.1.fR,Ai,Af,I A.1.fP,Z] ((⟨A.1.fc,(⟨30,25,24,400⟩:Pallet),A.1.fR,A.1.fT,A.1.fG,A.1.fP,A.1.fU⟩:Request):Request) from ⟨_,_,_,_,_,_,z,z,(m.q N 1 z),(m.q M 2 z),(m.q E 3 z)⟩)) λ_ e a k m=>pN 3 k z λa k=>AP m k zeroValue102 z z z z z λV _ a k m e O=>sT sizeOf102 m 0 O 0 k z z λBo a k e m Ca=>ul 5 k z λk=>sB YV m k z (by exact fN) λ_ _ _ a k m e O=>?_;have Ci:=AO O ([]:List Item) z z z;refine ul 10 k z λk=>lG (λn a w=>∃ Ba Y Z O T,K 46 [(2,pt b8),(3,pt Av),(4,pt V),(6,Y),(7,I T)] a∧St [D] J w [([b8],Bg),([Av],Bj),([V],Bo),([D],L),(Aq,L),(As,L),(Be,L),(Z,O)]∧ow O Z [Y] Ba∧H1 fu Q A Ac n Ba T=some r) ?_ fu ?_
   · rintro Cj a _ ⟨Ba,Y,Z,O,T,k,m,O,h⟩;refine gJ 10 [bF m 1 U z,lF (Enc.ow_rd E)] h k z (λh k=>?_) λh k=>?_
     · refine uc 2 k z λk=>cg (λa w=>∃ At Au Ar Az,K 46 [(2,pt b8),(3,pt Av),(4,pt V),(6,Au),(7,I T)] a∧St [D] J w [([b8],Bg),([Av],Bj),([V],Bo),([D],L),(Aq,L),(As,L),(Be,L),(Ar,Az)]∧ow Az Ar [Au] At∧PW fu (H1 fu Q A Ac Cj) T At=some r) ?_ ?_
       · rintro a _ ⟨At,Au,Ar,Az,k,m,D,h⟩;exact uc 6 k z λk=>⟨_,_,_,_,_,k.p z,m.f z,D,h⟩
       refine uc 2 k z λk=>dI [] m z λD m s=>oE h λL J h=>dr [2,0,1,3,4,5] 6 [bF D 1 U z,iF (Enc.ow_rd E) J,eA (D.q E 6 z) J,bA D 2 Ca z] k z s λk=>dG 6 z (oE h λ_ D h=>?_);refine cC k m call99 z (Zi D) λ_ e a k m=>ns s e λs=>dD ((AF ?_));refine cJ h k z (λh=>?_) λh=>?_
       · refine oE h λ_ _ h=>gc 7 [bF m 1 U z,iF (Enc.ow_rd E) J,eA (m.q E 6 z) J] k z λk=>sB YV m k z (by exact fC z fN) λ_ _ _ a k m e J=>?_;have D:=AO J ([L]:List Item) z z z;exact oE h λ_ J h=>BX J YV z m 8 O (News.rd (m.q D 0 z)) z z k z z z z z z z λ_ _ _ a k e m D=>ul 4 k z λk=>⟨_,_,_,_,k.p z,m.sl [1,2,3,4,5,6,7,8] z,D,h⟩
       exact uc 3 k z λk=>⟨_,_,_,_,k.p z,m.f z,O,h⟩
     refine uc 8 k z λk=>CM (cs':=[I A.1.fc,I 30,I 25,I 24,I 400,I A.1.fR,Ai,Af,I A.1.fP,Y]) sizeOf35 m 1 U 9 k (CJ (Enc.ow_rd O)) (A5 (Enc.ow_rd O)) z z z z z z z z z λ_ a k e m A=>gl 5 [bA m 1 A z] k z λk=>sT sizeOf37 m 0 Bn 0 k z (AH z (AH z (AH z (AH z (AH z (AH z (AH (A5 (Enc.ow_rd N)) (AH (A5 (Enc.ow_rd M)) (AH z (AH (A5 (Enc.ow_rd O)) DR)))))))))) λ_ a k e m A=>ul 3 k z λk=>?_;cases h;exact C7 k z (RV.cA k z SZ (A.at (m.a 0 z) 0 10 z z z) z) ⟨_,_,z,m.ext,⟨_,Aq,_,As,_,Z,z,z,(m.v N 4 z),(m.v M 5 z),(m.v O 7 z),by simpa [EC] using (m.sl [4,5,7] z).nd⟩,(A3 (m.freshX 4 3 z z z) (A3 (m.freshX 5 3 z z z) (m.freshX 7 3 z z z))),(m.y Bh 3 z)⟩
   exact ⟨_,_,_,_,_,k.p z,m.sl [7,2,1,6,3,4,5,0] z,Ci,h⟩
 refine gc 5 [bA m 0 Bc z] k z λk=>sT sizeOf37 m 5 Bn 0 k z (AH z (AH z (AH z (AH z (AH z (AH z (AH (A5 (Enc.ow_rd N)) (AH (A5 (Enc.ow_rd M)) (AH z (AH (A5 (Enc.ow_rd E)) DR)))))))))) λ_ a k e m A=>ul 3 k z λk=>?_;cases h;exact C7 k z (RV.cA k z SZ (A.at (m.a 5 z) 0 10 z z z) z) ⟨_,_,z,m.ext,⟨_,Aq,_,As,_,Be,z,z,(m.v N 1 z),(m.v M 2 z),(m.v E 3 z),by simpa [EC] using (m.sl [1,2,3] z).nd⟩,(A3 (m.freshX 1 4 z z z) (A3 (m.freshX 2 4 z z z) (m.freshX 3 4 z z z))),(m.y Bh 4 z)⟩
theorem dy {fu J N M Q r} (h:R4 fu N=some r) (A:rd J Q [M] N):cS 17 [M] J (.string (r)):=by
 refine eg func17 z ntmps17 z λk m=>oE h λ_ J h=>uc 8 k z λk=>sC k call15 z (Xd J (m.r A)) λ_ _ D=>?_;obtain ⟨L,rfl,e,M,N⟩:=D;refine ⟨_,z,λa k=>?_⟩;have m:=m.new e [L] (λy J=>⟨xL N y J,M.lt1 y J⟩) AD;refine oE h λ_ J h=>ul 7 k z λk=>sU k m 0 call16 z (RP J (m.y M 0 z) (m.r A) (m.dis0 0 z (Enc.rd_lt A) AD)) λ_ J k m=>lJ 2 h k z (λh k=>?_) λh k=>?_
 · refine oE h λ_ M h=>uc 3 k z λk=>sU k m 0 call37 z (iX M (m.y J 0 z) (m.r A) (m.dis0 0 z (Enc.rd_lt A) AD)) λ_ _ k m=>ul 5 k z λk=>fS h k m z z
 refine oE h λ_ M h=>uc 5 k z λk=>sC k call38 z (ZZ M (m.y J 0 z) (m.r A) (m.dis0 0 z (Enc.rd_lt A) AD)) λ_ _ D=>?_;obtain ⟨_,O,rfl,e,E,J,_⟩:=D;refine ⟨_,z,λa k=>?_⟩;have m:=m.mut 0 z e ([L]++O) (λb A=>(List.mem_append.1 A).elim (λA=>⟨.inl A,e.lt1 (m.ltF 0 z) b A⟩) (λA=>⟨.inr (J b A),(Enc.rd_lt (Enc.ow_rd E)) b A⟩)) (cw (m.ndF 0 z) (Enc.ow_nd E) (m.ltF 0 z) J);have m:=m.split2;have m:=m.toFront 1 z;obtain ⟨_,_,_,_,_,_,rfl,rfl,L,J,D,_⟩:=E;have m:=m.split2;have m:=m.split2at1;refine oE h λ_ A h=>cC k m call20 z (VV A (AE (m.q L 0 z) (m.q J 1 z) (m.q D 2 z))) λ_ e a k m=>ul 4 k z λk=>fS h k m z z
theorem Xi {fu N A D r} (h:L5 fu A D=some r):cL 55 [.string (A),.int .u8 (D)] N r:=by
 refine eg func55 z ntmps55 z λk m=>uc 7 k z λk=>sB XA m k z (by exact fN) λ_ _ _ a k m e E=>?_;have V:=AO E ([]:List ByteArray) z z z;refine ul 15 k z λk=>lG (λn a w=>∃ Q J M O L E,K 36 [(0,.string (A)),(1,.int .u8 (D)),(5,J),(6,I L),(7,I E)] a∧St [] N w [(M,O)]∧ow O M [J] Q∧HS fu A D n Q L E=some r) ?_ fu ?_
 · rintro U a _ ⟨Q,J,M,O,L,E,k,m,J,h⟩;refine uc 5 k z λk=>sv k z (cz k underlying9 z z) λa k=>lJ 3 h k z (λh k=>?_) λh k=>?_
   · refine uc 2 k z λk=>cg (λa w=>∃ Q L O T M,K 36 [(0,.string (A)),(1,.int .u8 (D)),(5,L),(6,I M),(7,I E)] a∧St [] N w [(O,T)]∧ow T O [L] Q∧KM fu (HS fu A D U) E Q M=some r) ?_ ?_
     · rintro a _ ⟨Q,L,O,T,M,k,m,A,h⟩;exact uc 6 k z λk=>⟨_,_,_,_,_,_,k.p z,m.f z,A,h⟩
     refine uc 5 k z λk=>sv k z (cz k underlying9 z z) λa k=>pN 2 k z λa k=>bT h k 19 z (λh k=>?_) λh k=>?_
     · refine oE h λE A h=>ul 15 k z λk=>sv k z (s4 A k underlying9 z z z z) λa k=>sB XA m k z (by exact fC z fN) λ_ _ _ a k m e D=>?_;have A:=AO D ([E]:List ByteArray) z z z;exact oE h λ_ D h=>BX D XA z m 1 J (News.rd (m.q A 0 z)) z z k z z z z z z z λ_ _ _ a k e m A=>ul 10 k z λk=>⟨_,_,_,_,_,k.p z,m.sl [1] z,A,h⟩
     refine pN 2 k z λa k=>oE h λ_ A h=>sv k z (l3 A k underlying9 z z z) λa k=>lJ 5 h k z (λh k=>?_) λh k=>?_
     · refine oE h λE A h=>uc 6 k z λk=>sv k z (s4 A k underlying9 z z z z) λa k=>sB XA m k z (by exact fC z fN) λ_ _ _ a k m e A=>?_;have D:=AO A ([E]:List ByteArray) z z z;exact oE h λ_ A h=>BX A XA z m 1 J (News.rd (m.q D 0 z)) z z k z z z z z z z λ_ _ _ a k e m A=>ul 10 k z λk=>⟨_,_,_,_,_,k.p z,m.sl [1] z,A,h⟩
     exact uc 3 k z λk=>⟨_,_,_,_,_,k.p z,m.f z,J,h⟩
   exact uc 12 k z λk=>fL h k m J 0 z z
 exact ⟨_,_,_,_,_,_,k.p z,m.f z,V,h⟩
theorem Z4 {fu E A r} (h:MQ fu A=some r):cS 156 [.string (A)] E (.tuple #[I r.1,.bool (r.2)]):=by
 refine eg func156 z ntmps156 z λk m=>uc 6 k z λk=>cg (λa w=>K 43 [(0,.string (A))] a∧St [] E w []∧Vx fu A=some r) ?_ ?_
 · rintro a _ ⟨k,m,h⟩;refine uc 12 k z λk=>lG (λn a w=>∃ J D,K 43 [(0,.string (A)),(4,I J),(5,I D)] a∧St [] E w []∧GJ fu A n J D=some r) ?_ fu ?_
   · rintro M a _ ⟨J,D,k,m,h⟩;refine uc 5 k z λk=>sv k z (cz k underlying9 z z) λa k=>lJ 3 h k z (λh k=>?_) λh k=>?_
     · refine uc 2 k z λk=>cg (λa w=>∃ L,K 43 [(0,.string (A)),(4,I L),(5,I D)] a∧St [] E w []∧VB fu (GJ fu A M) D L=some r) ?_ ?_
       · rintro a _ ⟨L,k,m,h⟩;exact uc 6 k z λk=>⟨_,_,k.p z,m.f z,h⟩
       refine uc 1 k z λk=>cg (λa w=>K 43 [(0,.string (A)),(4,I J),(5,I D)] a∧St [] E w []∧VH fu (GJ fu A M) A J D=some r) ?_ ?_
       · rintro a _ ⟨k,m,h⟩;exact oE h λ_ A h=>uc 5 k z λk=>sv k z (l3 A k underlying9 z z z) λa k=>sv k z (m7 k underlying5 underlying3 z z) λa k=>ul 6 k z λk=>⟨_,k.p z,m.f z,h⟩
       refine oE h λ_ A h=>uc 4 k z λk=>sv k z (l3 A k underlying9 z z z) λa k=>pN 2 k z λa k=>bT h k 24 z (λh k=>?_) λh k=>?_
       · refine ul 21 k z λk=>?_;cases h;exact B4 k z (RV.tmp k z) (RV.tmp k z) ⟨z,m.ext⟩
       refine pN 2 k z λa k=>oE h λ_ A h=>sv k z (l3 A k underlying9 z z z) λa k=>lJ 4 h k z (λh k=>?_) λh k=>?_
       · refine uc 13 k z λk=>?_;cases h;exact B4 k z (RV.tmp k z) (RV.tmp k z) ⟨z,m.ext⟩
       exact uc 2 k z λk=>⟨k.p z,m.f z,h⟩
     refine oE h λ_ A h=>uc 9 k z λk=>cC k m call100 z (X7 A) λ_ e a k m=>lJ 4 h k z (λh k=>?_) λh k=>?_
     · refine uc 8 k z λk=>?_;cases h;exact B4 k z (RV.tmp k z) (RV.tmp k z) ⟨z,m.ext⟩
     refine uc 10 k z λk=>?_;cases h;exact B4 k z (RV.tmp k z) (RV.tmp k z) ⟨z,m.ext⟩
   exact ⟨_,_,k.p z,m.f z,h⟩
 refine uc 3 k z λk=>sv k z (cz k underlying9 z z) λa k=>pN 2 k z λa k=>bT h k 9 z (λh k=>?_) λh k=>?_
 · refine ul 15 k z λk=>?_;cases h;exact B4 k z (RV.tmp k z) (RV.tmp k z) ⟨z,m.ext⟩
 refine pN 1 k z λa k=>sv k z (cz k underlying9 z z) λa k=>lJ 4 h k z (λh k=>?_) λh k=>?_
 · refine uc 8 k z λk=>?_;cases h;exact B4 k z (RV.tmp k z) (RV.tmp k z) ⟨z,m.ext⟩
 exact uc 2 k z λk=>⟨k.p z,m.f z,h⟩
theorem iO {fu D J A E r} (h:RE fu J A E=some r):Calls Tryz.prog 116 #[.string (J),.string (A),I E] D λe w=>∃ (A:Value) (E:List Nat),e=.returned (.tuple #[A,.bool (r.2)])∧Ext [] D w∧ow w E [A] r.1∧(∀ b∈E,D.heap.size≤b):=by
 refine eg (vs:=[_,_,_]) func116 z ntmps116 z λk m=>oE h λU A h=>uc 9 k z λk=>sL k m call55 z (Xi A) λY T V A k m=>ul 5 k z λk=>sB AV m k z (by exact fN) λE J _ a k m e M=>?_;have L:=AO M ([]:List Int) z z z;refine ul 3 k z λk=>cg (λa w=>K 51 [(8,T),(9,(.slice (some ⟨E,0,none⟩) 0 0))] a∧St [] D w [(V,Y),([E],J)]∧VQ fu U=some r) ?_ ?_
 · rintro a _ ⟨k,m,h⟩;refine uc 7 k z λk=>lG (λn a w=>∃ O N J Q M,K 51 [(8,T),(9,N),(10,I M)] a∧St [] D w [(V,Y),(J,Q)]∧ow Q J [N] O∧J9 fu U n O M=some r) ?_ fu ?_
   · rintro _ a _ ⟨O,N,J,Q,M,k,m,M,h⟩;refine gJ 9 [lF (Enc.ow_rd A)] h k z (λh k=>?_) λh k=>?_
     · refine o2 h λ_ D Q N h=>gc 10 [iF (Enc.ow_rd A) D,eF (m.q A 0 z) D 0] k z λk=>cC k m call156 z (Z4 N) λ_ e a k m=>lJ 14 h k z (λh k=>?_) λh k=>?_
       · refine uc 2 k z λk=>sB AV m k z (by exact fN) λD _ _ a k m e O=>?_;have N:=AO O ([]:List Int) z z z;refine ul 11 k z λk=>?_;cases h;exact B4 k z (RV.tmp k z) (RV.tmp k z) ⟨_,[D],z,m.ext,(m.v N 0 z),(m.fresh 0 z)⟩
       refine uc 5 k z λk=>sB AV m k z (by exact fC z fN) λ_ _ _ a k m e D=>?_;have N:=AO D ([Q.1]:List Int) z z z;exact oE h λ_ D h=>BX D AV z m 2 M (News.rd (m.q N 0 z)) z z k z z z z z z z λ_ _ _ a k e m D=>ul 10 k z λk=>⟨_,_,_,_,_,k.p z,m.sl [1,2] z,D,h⟩
     refine uc 13 k z λk=>?_;cases h;exact B4 k z (RV.tmp k z) (RV.tmp k z) ⟨_,J,z,m.ext,(m.v M 1 z),(m.fresh 1 z)⟩
   exact ⟨_,_,_,_,_,k.p z,m.f z,L,h⟩
 refine oE h λ_ D h=>gc 8 [iF (Enc.ow_rd A) D,eF (m.q A 1 z) D 0] k z λk=>bT h k 21 z (λh k=>?_) λh k=>?_
 · refine ul 18 k z λk=>?_;cases h;exact B4 k z (RV.tmp k z) (RV.tmp k z) ⟨_,[E],z,m.ext,(m.v L 0 z),(m.fresh 0 z)⟩
 refine hJ 8 [lF (Enc.ow_rd A)] h k z (λh k=>?_) λh k=>?_
 · refine uc 9 k z λk=>?_;cases h;exact B4 k z (RV.tmp k z) (RV.tmp k z) ⟨_,[E],z,m.ext,(m.v L 0 z),(m.fresh 0 z)⟩
 exact uc 2 k z λk=>⟨k.p z,m.sl [1,0] z,h⟩
theorem FC {fu A L N E M J T r} (h:BV fu L N E M=some r) (D:rd A T [J] L):Calls Tryz.prog 56 #[J,I N,.string (E),I M] A λe w=>∃ (E:Value) (J:List Nat),e=.returned (.tuple #[E,.bool (r.2)])∧Ext [] A w∧ow w J [E] r.1∧(∀ b∈J,A.heap.size≤b):=by
 refine eg (vs:=[_,_,_,_]) func56 z ntmps56 z λk m=>gJ 16 [lF D] h k z (λh k=>?_) λh k=>?_
 · refine uc 2 k z λk=>sB AV m k z (by exact fN) λJ _ _ a k m e E=>?_;have A:=AO E ([]:List Int) z z z;refine ul 6 k z λk=>?_;cases h;exact B4 k z (RV.tmp k z) (RV.tmp k z) ⟨_,[J],z,m.ext,(m.v A 0 z),(m.fresh 0 z)⟩
 refine o2 h λ_ A _ E h=>gc 10 [iF D A,eF (m.r D) A 0] k z λk=>sC k call116 z (iO E) λ_ _ O=>?_;obtain ⟨_,Q,rfl,e,A,D⟩:=O;refine ⟨_,z,λa k=>?_⟩;have m:=m.nw e D A;refine ul 7 k z λk=>?_;cases h;exact B4 k z (RV.tmp k z) (RV.tmp k z) ⟨_,Q,z,m.ext,(m.v A 0 z),(m.fresh 0 z)⟩
theorem VD {fu w0 O r} (h:J6 fu O=some r):Calls Tryz.prog 24 #[.string (O)] w0 λe w=>∃ (O:List Value) (G0:List Nat),e=.returned (.tuple #[.agg O.toArray,I r.2])∧Ext [] w0 w∧ow w G0 O r.1∧(∀ b∈G0,w0.heap.size≤b):=by
 refine eg (vs:=[_]) func24 z ntmps24 z λk m=>uc 2 k z λk=>AP m k zeroValue37 z z z z z λb2 w4 a k m e Ao=>oE h λZ O h=>ul 6 k z λk=>sL k m call55 z (Xi O) λw9 Bn Aw M k m=>hJ 18 [lF (Enc.ow_rd M)] h k z (λh k=>?_) λh k=>?_
 · refine uc 2 k z λk=>sv k z (AN av k (cs:=#[I 0,I 0,I 0,I 0,I 0,I 0,.slice none 0 0,.slice none 0 0,I 0,.slice none 0 0]) (ps:=[]) z z AQ) λa k=>sT sizeOf37 m 1 Ao 0 k z z λ_ a k e m O=>ul 5 k z λk=>?_;cases h;exact B4 k z (RV.cA k z SZ (O.at (m.a 1 z) 0 10 z z z) z) (RV.tmp k z) ⟨_,_,z,m.ext,⟨_,[],_,[],_,[],z,z,(A0 _),(A0 _),(A0 _),by simpa [EC] using (m.sl [] z).nd⟩,(A3 AD (A3 AD AD))⟩
 refine uc 4 k z λk=>sv k z (AN av k (cs:=#[I 0,I 0,I 0,I 0,I 0,I 0,.slice none 0 0,.slice none 0 0,I 0,.slice none 0 0]) (ps:=[]) z z AQ) λa k=>AP m k zeroValue37 z z z z z λE _ a k m e O=>sT sizeOf37 m 0 O 0 k z z λO a k e m Fl=>ul 7 k z λk=>cg (λa w=>K 217 [(2,pt b2),(4,Bn),(5,I (AK ((Z.length:Int) - 1))),(6,pt E)] a∧St [] w0 w [([b2],w4),([E],O),(Aw,w9)]∧JQ fu Z=some r) ?_ ?_
 · rintro a _ ⟨k,m,h⟩;refine cg (λa w=>∃ N O,K 217 [(2,pt b2),(4,Bn),(5,I (AK ((Z.length:Int) - 1))),(6,pt E)] a∧St [] w0 w [([b2],w4),([E],O),(Aw,w9)]∧bx O E [I N,I 0,I 0,I 0,I 0,I 0,.slice none 0 0,.slice none 0 0,I 0,.slice none 0 0] 37∧FI fu Z N=some r) ?_ ?_
   · rintro a _ ⟨N,O,k,m,Jh,h⟩;refine oE h λ_ O h=>uc 9 k z λk=>sC k call56 z (FC O (m.q M 2 z)) λ_ _ J=>?_;obtain ⟨_,_,rfl,e,O,Kq⟩:=J;refine ⟨_,z,λa k=>?_⟩;have m:=m.nw e Kq O;refine lJ 14 h k z (λh k=>?_) λh k=>?_
     · refine uc 2 k z λk=>sv k z (AN av k (cs:=#[I 0,I 0,I 0,I 0,I 0,I 0,.slice none 0 0,.slice none 0 0,I 0,.slice none 0 0]) (ps:=[]) z z AQ) λa k=>pN 1 k z λa k=>sT sizeOf37 m 1 Ao 0 k z z λ_ a k e m Lb=>ul 5 k z λk=>?_;cases h;exact B4 k z (RV.cA k z SZ (Lb.at (m.a 1 z) 0 10 z z z) z) (RV.tmp k z) ⟨_,_,z,m.ext,⟨_,[],_,[],_,[],z,z,(A0 _),(A0 _),(A0 _),by simpa [EC] using (m.sl [] z).nd⟩,(A3 AD (A3 AD AD))⟩
     refine uc 3 k z λk=>dI ([E]) m z λL m s=>dM [0,3,6,9] 4 z k z s λa k=>oE h λV Dx h=>dT k 1 z z s (λw s=>BK (Enc.ow_rd O) Dx k FX z z z) λa k=>dT k 2 z z s (λw s=>CI (Enc.ow_rd O) (L.az 0 2 z z z s) Dx 0 GP k z z z z) λa k=>oE h λU Dz h=>dT k 4 z z s (λw s=>BK (Enc.ow_rd O) Dz k FX z z z) λa k=>dT k 5 z z s (λw s=>CI (Enc.ow_rd O) (L.az 0 2 z z z s) Dz 0 GP k z z z z) λa k=>oE h λT Dv h=>dT k 7 z z s (λw s=>BK (Enc.ow_rd O) Dv k FX z z z) λa k=>dT k 8 z z s (λw s=>CI (Enc.ow_rd O) (L.az 0 2 z z z s) Dv 0 GP k z z z z) λa k=>oE h λQ El h=>dT k 10 z z s (λw s=>BK (Enc.ow_rd O) El k FX z z z) λa k=>dT k 11 z z s (λw s=>CI (Enc.ow_rd O) (L.az 0 2 z z z s) El 0 GP k z z z z) λa k=>dT k 12 z z s (λw s=>AN u4 k (cs:=#[I V,I U,I T,I Q]) (ps:=[(0,.tmp 51),(1,.tmp 54),(2,.tmp 57),(3,.tmp 60)]) z z AQ) λa k=>dF k 13 kR z s λa k=>dG 14 z ?_;refine sT sizeOf32 m 2 Jh 1 k z z λ_ a k e m Ia=>nt iL s e λs=>dD ?_;refine (AF ?_);refine oE h λ_ O h=>uc 9 k z λk=>sC k call56 z (FC O (m.q M 3 z)) λ_ _ J=>?_;obtain ⟨_,_,rfl,e,O,Hh⟩:=J;refine ⟨_,z,λa k=>?_⟩;have m:=m.nw e Hh O;refine lJ 14 h k z (λh k=>?_) λh k=>?_
     · refine uc 2 k z λk=>sv k z (AN av k (cs:=#[I 0,I 0,I 0,I 0,I 0,I 0,.slice none 0 0,.slice none 0 0,I 0,.slice none 0 0]) (ps:=[]) z z AQ) λa k=>pN 1 k z λa k=>sT sizeOf37 m 2 Ao 0 k z z λ_ a k e m Kv=>ul 5 k z λk=>?_;cases h;exact B4 k z (RV.cA k z SZ (Kv.at (m.a 2 z) 0 10 z z z) z) (RV.tmp k z) ⟨_,_,z,m.ext,⟨_,[],_,[],_,[],z,z,(A0 _),(A0 _),(A0 _),by simpa [EC] using (m.sl [] z).nd⟩,(A3 AD (A3 AD AD))⟩
     refine oE h λY Ez h=>gc 8 [iF (Enc.ow_rd O) Ez,eF (m.q O 0 z) Ez 0] k z λk=>sT sizeOf3 m 3 Ia 5 k z z λ_ a k e m Gb=>oE h λ_ O h=>ul 11 k z λk=>sC k call56 z (FC O (m.q M 4 z)) λ_ _ J=>?_;obtain ⟨_,_,rfl,e,Cl,O⟩:=J;refine ⟨_,z,λa k=>?_⟩;have m:=m.nw e O Cl;refine ul 9 k z λk=>lG (λn a w=>∃ Bq Ak Am Bk Bx Av O Do Dg Db Ct,K 217 [(2,pt b2),(4,Bn),(5,I (AK ((Z.length:Int) - 1))),(6,pt E),(7,I Av),(8,Do),(9,.bool (Ct))] a∧St [] w0 w [([b2],w4),(Am,Bk),([E],Bx),(Aw,w9),(Dg,Db)]∧ow Bk Am [Ak] Bq∧bx Bx E [I N,I V,I U,I T,I Q,I Y,Ak,.slice none 0 0,I 0,.slice none 0 0] 37∧ow Db Dg [Do] O∧JR fu Z N V U T Q Y n Bq Av O Ct=some r) ?_ fu ?_
     · rintro _ a _ ⟨Bq,Ak,Am,Bk,Bx,Av,O,Do,Dg,Db,Ct,k,m,Bw,Bl,O,h⟩;refine uJ 6 h k z (λh k=>?_) λh k=>?_
       · refine uc 4 k z λk=>dI (Am++([E])) m z λL m s=>?_;have A:=(L.sel [1,2,0,3,4] z A1).join2;refine dM [2,5] 2 z k z s λa k=>dF k 0 TP z s λa k=>oE h λBd Fy h=>dT k 3 z z s (λw s=>BK (Enc.ow_rd O) Fy k FX z z z) λa k=>dT k 4 z z s (λw s=>CI (Enc.ow_rd O) (A.az 3 0 z z z s) Fy 0 GP k z z z z) λa k=>oE h λBm Fz h=>dT k 6 z z s (λw s=>BK (Enc.ow_rd O) Fz k FX z z z) λa k=>dT k 7 z z s (λw s=>CI (Enc.ow_rd O) (A.az 3 0 z z z s) Fz 0 GP k z z z z) λa k=>dT k 8 z z s (λw s=>AN fp k (cs:=#[I Bd,I Bm]) (ps:=[(0,.tmp 88),(1,.tmp 91)]) z z AQ) λa k=>Vr 1 9 AQ z z ?_ ?_
         · refine gl 1 [bF m 2 Bl z] k z λk=>wpList_nil ⟨s,?_⟩;refine dG 9 z (BD aW m k z z z z z z z A1 z (by exact fC z fN) λ_ _ _ a k m e O Gw=>?_);have Mg:=s.lo Gw;have Ks:=AO O ([(⟨Bd,Bm⟩:Pair)]:List Pair) z z z;refine ns s e λs=>dG 10 z (oE h λ_ O h=>AZ O aW z m 2 Bw (News.rd (m.q Ks 0 z)) z z k z z z z z z z λO Ey _ a k e m Di Kp=>?_);have Od:∀ y∈Ey,y∈(Am++([E]))∨_≤y:=λy D=>(Kp y D).elim (λD=>(λy D=>Or.inl (List.mem_append_left _ D)) y D) (λh=>Or.inr (Nat.le_trans s.size h));refine nt iA s e λs=>dF k 11 TP z s λa k=>dG 12 z (CM (cs':=[I N,I V,I U,I T,I Q,I Y,O,.slice none 0 0,I 0,.slice none 0 0]) sizeOf33 m 3 Bl 6 k (CJ (Enc.ow_rd Di)) (A5 (Enc.ow_rd Di)) z z z z z z z z z λ_ a k e m Ic=>?_);refine nt iB s e λs=>dD ((AF ?_));refine oE h λ_ O h=>uc 10 k z λk=>sC k call56 z (FC O (m.q M 4 z)) λ_ _ J=>?_;obtain ⟨_,_,rfl,e,O,Lh⟩:=J;refine ⟨_,z,λa k=>?_⟩;have m:=m.nw e Lh O;exact ul 8 k z λk=>⟨_,_,_,_,_,_,_,_,_,_,_,k.p z,m.sl [2,3,4,5,0] z,Di,Ic,O,h⟩
         refine BD aW m k z z z z z z z A1 z (by exact fC z fN) λ_ _ _ a k m e O Kr=>?_;have Nt:=s.lo Kr;have Ld:=AO O ([(⟨Bd,Bm⟩:Pair)]:List Pair) z z z;refine ns s e λs=>dG 1 z (gl 1 [bF m 3 Bl z] k z λk=>wpList_nil ⟨s,?_⟩);refine dG 10 z (oE h λ_ O h=>AZ O aW z m 2 Bw (News.rd (m.q Ld 0 z)) z z k z z z z z z z λDt O _ a k e m Co Ki=>?_);have Ng:∀ y∈O,y∈(Am++([E]))∨_≤y:=λy D=>(Ki y D).elim (λD=>(λy D=>Or.inl (List.mem_append_left _ D)) y D) (λh=>Or.inr (Nat.le_trans s.size h));refine nt iA s e λs=>dF k 11 TP z s λa k=>dG 12 z (CM (cs':=[I N,I V,I U,I T,I Q,I Y,Dt,.slice none 0 0,I 0,.slice none 0 0]) sizeOf33 m 3 Bl 6 k (CJ (Enc.ow_rd Co)) (A5 (Enc.ow_rd Co)) z z z z z z z z z λ_ a k e m Gf=>?_);refine nt iB s e λs=>dD ((AF ?_));refine oE h λ_ O h=>uc 10 k z λk=>sC k call56 z (FC O (m.q M 4 z)) λ_ _ J=>?_;obtain ⟨_,_,rfl,e,O,Ju⟩:=J;refine ⟨_,z,λa k=>?_⟩;have m:=m.nw e Ju O;exact ul 8 k z λk=>⟨_,_,_,_,_,_,_,_,_,_,_,k.p z,m.sl [2,3,4,5,0] z,Co,Gf,O,h⟩
       refine oE h λ_ O h=>uc 9 k z λk=>sC k call56 z (FC O (m.q M 3 z)) λ_ _ J=>?_;obtain ⟨_,_,rfl,e,Cu,O⟩:=J;refine ⟨_,z,λa k=>?_⟩;have m:=m.nw e O Cu;refine ul 9 k z λk=>lG (λn a w=>∃ Cb Aq Ap Ch Df At Ci De O Dm Dh,K 217 [(2,pt b2),(4,Bn),(5,I (AK ((Z.length:Int) - 1))),(6,pt E),(7,I At),(8,De),(9,.bool (Dh))] a∧St [] w0 w [([b2],w4),(Ap,Ch),([E],Df),(Aw,w9),(Am,Bk),(O,Dm)]∧ow Ch Ap [Aq] Cb∧bx Df E [I N,I V,I U,I T,I Q,I Y,Ak,Aq,I 0,.slice none 0 0] 37∧ow Dm O [De] Ci∧HF fu Z N V U T Q Y Bq n Cb At Ci Dh=some r) ?_ fu ?_
       · rintro _ a _ ⟨Cb,Aq,Ap,Ch,Df,At,Ci,De,O,Dm,Dh,k,m,Cc,Bu,O,h⟩;refine uJ 6 h k z (λh k=>?_) λh k=>?_
         · refine uc 4 k z λk=>dI (Ap++([E])) m z λL m s=>?_;have A:=(L.sel [1,2,0,3,4,5] z A1).join2;refine dM [2,5,8,11,14,17,20] 7 z k z s λa k=>dF k 0 IY z s λa k=>oE h λBv Fg h=>dT k 3 z z s (λw s=>BK (Enc.ow_rd O) Fg k FX z z z) λa k=>dT k 4 z z s (λw s=>CI (Enc.ow_rd O) (A.az 4 0 z z z s) Fg 0 GP k z z z z) λa k=>oE h λBt Eg h=>dT k 6 z z s (λw s=>BK (Enc.ow_rd O) Eg k FX z z z) λa k=>dT k 7 z z s (λw s=>CI (Enc.ow_rd O) (A.az 4 0 z z z s) Eg 0 GP k z z z z) λa k=>oE h λBc Fm h=>dT k 9 z z s (λw s=>BK (Enc.ow_rd O) Fm k FX z z z) λa k=>dT k 10 z z s (λw s=>CI (Enc.ow_rd O) (A.az 4 0 z z z s) Fm 0 GP k z z z z) λa k=>oE h λBe Em h=>dT k 12 z z s (λw s=>BK (Enc.ow_rd O) Em k FX z z z) λa k=>dT k 13 z z s (λw s=>CI (Enc.ow_rd O) (A.az 4 0 z z z s) Em 0 GP k z z z z) λa k=>oE h λBo Fc h=>dT k 15 z z s (λw s=>BK (Enc.ow_rd O) Fc k FX z z z) λa k=>?_;refine dT k 16 z z s (λw s=>CI (Enc.ow_rd O) (A.az 4 0 z z z s) Fc 0 GP k z z z z) λa k=>oE h λBs Eo h=>dT k 18 z z s (λw s=>BK (Enc.ow_rd O) Eo k FX z z z) λa k=>dT k 19 z z s (λw s=>CI (Enc.ow_rd O) (A.az 4 0 z z z s) Eo 0 GP k z z z z) λa k=>oE h λBj Fd h=>dT k 21 z z s (λw s=>BK (Enc.ow_rd O) Fd k FX z z z) λa k=>dT k 22 z z s (λw s=>CI (Enc.ow_rd O) (A.az 4 0 z z z s) Fd 0 GP k z z z z) λa k=>dT k 23 z z s (λw s=>AN W1 k (cs:=#[I Bv,I Bt,I Bc,I Be,I Bo,I Bs,I Bj]) (ps:=[(0,.tmp 115),(1,.tmp 118),(2,.tmp 121),(3,.tmp 124),(4,.tmp 127),(5,.tmp 130),(6,.tmp 133)]) z z AQ) λa k=>Vr 1 24 AQ z z ?_ ?_
           · refine gl 1 [bF m 2 Bu z] k z λk=>wpList_nil ⟨s,?_⟩;refine dG 24 z (BD PB m k z z z z z z z A1 z (by exact fC z fN) λ_ _ _ a k m e O Kh=>?_);have Mq:=s.lo Kh;have If:=AO O ([(⟨Bv,Bt,Bc,Be,Bo,Bs,Bj⟩:Typ)]:List Typ) z z z;refine ns s e λs=>dG 25 z (oE h λ_ O h=>AZ O PB z m 2 Cc (News.rd (m.q If 0 z)) z z k z z z z z z z λEv Et _ a k e m Dc O=>?_);have Nn:∀ y∈Et,y∈(Ap++([E]))∨_≤y:=λy D=>(O y D).elim (λD=>(λy D=>Or.inl (List.mem_append_left _ D)) y D) (λh=>Or.inr (Nat.le_trans s.size h));refine nt iA s e λs=>dF k 26 IY z s λa k=>dG 27 z (CM (cs':=[I N,I V,I U,I T,I Q,I Y,Ak,Ev,I 0,.slice none 0 0]) sizeOf34 m 3 Bu 7 k (CJ (Enc.ow_rd Dc)) (A5 (Enc.ow_rd Dc)) z z z z z z z z z λ_ a k e m Hg=>?_);refine nt iB s e λs=>dD ?_;refine (AF ?_);refine oE h λ_ O h=>uc 10 k z λk=>sC k call56 z (FC O (m.q M 4 z)) λ_ _ J=>?_;obtain ⟨_,_,rfl,e,O,Io⟩:=J;refine ⟨_,z,λa k=>?_⟩;have m:=m.nw e Io O;exact ul 8 k z λk=>⟨_,_,_,_,_,_,_,_,_,_,_,k.p z,m.sl [2,3,4,5,6,0] z,Dc,Hg,O,h⟩
           refine BD PB m k z z z z z z z A1 z (by exact fC z fN) λ_ _ _ a k m e Jw O=>?_;have Nd:=s.lo O;have Ij:=AO Jw ([(⟨Bv,Bt,Bc,Be,Bo,Bs,Bj⟩:Typ)]:List Typ) z z z;refine ns s e λs=>dG 1 z (gl 1 [bF m 3 Bu z] k z λk=>wpList_nil ⟨s,?_⟩);refine dG 25 z (oE h λ_ O h=>AZ O PB z m 2 Cc (News.rd (m.q Ij 0 z)) z z k z z z z z z z λEx En _ a k e m Dk O=>?_);have Li:∀ y∈En,y∈(Ap++([E]))∨_≤y:=λy D=>(O y D).elim (λD=>(λy D=>Or.inl (List.mem_append_left _ D)) y D) (λh=>Or.inr (Nat.le_trans s.size h));refine nt iA s e λs=>dF k 26 IY z s λa k=>dG 27 z (CM (cs':=[I N,I V,I U,I T,I Q,I Y,Ak,Ex,I 0,.slice none 0 0]) sizeOf34 m 3 Bu 7 k (CJ (Enc.ow_rd Dk)) (A5 (Enc.ow_rd Dk)) z z z z z z z z z λ_ a k e m Hw=>?_);refine nt iB s e λs=>dD ?_;refine (AF ?_);refine oE h λ_ O h=>uc 10 k z λk=>sC k call56 z (FC O (m.q M 4 z)) λ_ _ J=>?_;obtain ⟨_,_,rfl,e,O,Ib⟩:=J;refine ⟨_,z,λa k=>?_⟩;have m:=m.nw e Ib O;exact ul 8 k z λk=>⟨_,_,_,_,_,_,_,_,_,_,_,k.p z,m.sl [2,3,4,5,6,0] z,Dk,Hw,O,h⟩
         refine oE h λ_ O h=>uc 9 k z λk=>sC k call56 z (FC O (m.q M 3 z)) λ_ _ J=>?_;obtain ⟨_,_,rfl,e,O,Hr⟩:=J;refine ⟨_,z,λa k=>?_⟩;have m:=m.nw e Hr O;refine lJ 14 h k z (λh k=>?_) λh k=>?_
         · refine uc 2 k z λk=>sv k z (AN av k (cs:=#[I 0,I 0,I 0,I 0,I 0,I 0,.slice none 0 0,.slice none 0 0,I 0,.slice none 0 0]) (ps:=[]) z z AQ) λa k=>pN 1 k z λa k=>sT sizeOf37 m 1 Ao 0 k z z λ_ a k e m Gv=>ul 5 k z λk=>?_;cases h;exact B4 k z (RV.cA k z SZ (Gv.at (m.a 1 z) 0 10 z z z) z) (RV.tmp k z) ⟨_,_,z,m.ext,⟨_,[],_,[],_,[],z,z,(A0 _),(A0 _),(A0 _),by simpa [EC] using (m.sl [] z).nd⟩,(A3 AD (A3 AD AD))⟩
         refine oE h λAs Ed h=>gc 8 [iF (Enc.ow_rd O) Ed,eF (m.q O 0 z) Ed 0] k z λk=>sT sizeOf3 m 3 Bu 8 k z z λGc a k e m Jx=>oE h λ_ O h=>ul 13 k z λk=>sC k call56 z (FC O (m.q M 4 z)) λ_ _ J=>?_;obtain ⟨_,_,rfl,e,Cp,O⟩:=J;refine ⟨_,z,λa k=>?_⟩;have m:=m.nw e O Cp;refine ul 9 k z λk=>lG (λn a w=>∃ Cs Cg Ar Dn Cq Au Cn Cv Cz O Cr,K 217 [(2,pt b2),(4,Bn),(5,I (AK ((Z.length:Int) - 1))),(6,pt E),(7,I Au),(8,Cv),(9,.bool (Cr))] a∧St [] w0 w [([b2],w4),(Ar,Dn),([E],Cq),(Aw,w9),(Am,Bk),(Ap,Ch),(Cz,O)]∧ow Dn Ar [Cg] Cs∧bx Cq E [I N,I V,I U,I T,I Q,I Y,Ak,Aq,I As,Cg] 37∧ow O Cz [Cv] Cn∧HJ fu Z N V U T Q Y Bq Cb As n Cs Au Cn Cr=some r) ?_ fu ?_
         · rintro _ a _ ⟨Cs,Cg,Ar,Dn,Cq,Au,Cn,Cv,Cz,O,Cr,k,m,Bz,Bh,O,h⟩;refine uJ 6 h k z (λh k=>?_) λh k=>?_
           · refine uc 4 k z λk=>dI (Ar++([E])) m z λL m s=>?_;have A:=(L.sel [1,2,0,3,4,5,6] z A1).join2;refine dM [2,5,8,11,14,17,20] 7 z k z s λa k=>dF k 0 WN z s λa k=>oE h λAz L h=>dT k 3 z z s (λw s=>BK (Enc.ow_rd O) L k FX z z z) λa k=>dT k 4 z z s (λw s=>CI (Enc.ow_rd O) (A.az 5 0 z z z s) L 0 GP k z z z z) λa k=>oE h λBr L h=>dT k 6 z z s (λw s=>BK (Enc.ow_rd O) L k FX z z z) λa k=>dT k 7 z z s (λw s=>CI (Enc.ow_rd O) (A.az 5 0 z z z s) L 0 GP k z z z z) λa k=>oE h λBf L h=>dT k 9 z z s (λw s=>BK (Enc.ow_rd O) L k FX z z z) λa k=>dT k 10 z z s (λw s=>CI (Enc.ow_rd O) (A.az 5 0 z z z s) L 0 GP k z z z z) λa k=>oE h λBi L h=>dT k 12 z z s (λw s=>BK (Enc.ow_rd O) L k FX z z z) λa k=>dT k 13 z z s (λw s=>CI (Enc.ow_rd O) (A.az 5 0 z z z s) L 0 GP k z z z z) λa k=>oE h λBg L h=>dT k 15 z z s (λw s=>BK (Enc.ow_rd O) L k FX z z z) λa k=>?_;refine dT k 16 z z s (λw s=>CI (Enc.ow_rd O) (A.az 5 0 z z z s) L 0 GP k z z z z) λa k=>oE h λBa L h=>dT k 18 z z s (λw s=>BK (Enc.ow_rd O) L k FX z z z) λa k=>dT k 19 z z s (λw s=>CI (Enc.ow_rd O) (A.az 5 0 z z z s) L 0 GP k z z z z) λa k=>oE h λAy L h=>dT k 21 z z s (λw s=>BK (Enc.ow_rd O) L k FX z z z) λa k=>dT k 22 z z s (λw s=>CI (Enc.ow_rd O) (A.az 5 0 z z z s) L 0 GP k z z z z) λa k=>dT k 23 z z s (λw s=>AN Y1 k (cs:=#[I Az,I Br,I Bf,I Bi,I Bg,I Ba,I Ay]) (ps:=[(0,.tmp 173),(1,.tmp 176),(2,.tmp 179),(3,.tmp 182),(4,.tmp 185),(5,.tmp 188),(6,.tmp 191)]) z z AQ) λa k=>Vr 1 24 AQ z z ?_ ?_
             · refine gl 1 [bF m 2 Bh z] k z λk=>wpList_nil ⟨s,?_⟩;refine dG 24 z (BD YV m k z z z z z z z A1 z (by exact fC z fN) λ_ _ _ a k m e L A=>?_);have O:=s.lo A;have O:=AO L ([(⟨Az,Br,Bf,Bi,Bg,Ba,Ay⟩:Item)]:List Item) z z z;refine ns s e λs=>dG 25 z (oE h λ_ A h=>AZ A YV z m 2 Bz (News.rd (m.q O 0 z)) z z k z z z z z z z λO A _ a k e m Cx L=>?_);have Mx:∀ y∈A,y∈(Ar++([E]))∨_≤y:=λy D=>(L y D).elim (λD=>(λy D=>Or.inl (List.mem_append_left _ D)) y D) (λh=>Or.inr (Nat.le_trans s.size h));refine nt iA s e λs=>dF k 26 WN z s λa k=>dG 27 z (CM (cs':=[I N,I V,I U,I T,I Q,I Y,Ak,Aq,I As,O]) sizeOf35 m 3 Bh 9 k (CJ (Enc.ow_rd Cx)) (A5 (Enc.ow_rd Cx)) z z z z z z z z z λ_ a k e m Lf=>?_);refine nt iB s e λs=>dD ?_;refine (AF ?_);refine oE h λ_ A h=>uc 10 k z λk=>sC k call56 z (FC A (m.q M 4 z)) λ_ _ J=>?_;obtain ⟨_,_,rfl,e,A,L⟩:=J;refine ⟨_,z,λa k=>?_⟩;have m:=m.nw e L A;exact ul 8 k z λk=>⟨_,_,_,_,_,_,_,_,_,_,_,k.p z,m.sl [2,3,4,5,6,7,0] z,Cx,Lf,A,h⟩
             refine BD YV m k z z z z z z z A1 z (by exact fC z fN) λ_ _ _ a k m e L A=>?_;have O:=s.lo A;have A:=AO L ([(⟨Az,Br,Bf,Bi,Bg,Ba,Ay⟩:Item)]:List Item) z z z;refine ns s e λs=>dG 1 z (gl 1 [bF m 3 Bh z] k z λk=>wpList_nil ⟨s,?_⟩);refine dG 25 z (oE h λ_ L h=>AZ L YV z m 2 Bz (News.rd (m.q A 0 z)) z z k z z z z z z z λA O _ a k e m Cj L=>?_);have Ni:∀ y∈O,y∈(Ar++([E]))∨_≤y:=λy D=>(L y D).elim (λD=>(λy D=>Or.inl (List.mem_append_left _ D)) y D) (λh=>Or.inr (Nat.le_trans s.size h));refine nt iA s e λs=>dF k 26 WN z s λa k=>dG 27 z (CM (cs':=[I N,I V,I U,I T,I Q,I Y,Ak,Aq,I As,A]) sizeOf35 m 3 Bh 9 k (CJ (Enc.ow_rd Cj)) (A5 (Enc.ow_rd Cj)) z z z z z z z z z λ_ a k e m Ku=>?_);refine nt iB s e λs=>dD ?_;refine (AF ?_);refine oE h λ_ A h=>uc 10 k z λk=>sC k call56 z (FC A (m.q M 4 z)) λ_ _ J=>?_;obtain ⟨_,_,rfl,e,A,D⟩:=J;refine ⟨_,z,λa k=>?_⟩;have m:=m.nw e D A;exact ul 8 k z λk=>⟨_,_,_,_,_,_,_,_,_,_,_,k.p z,m.sl [2,3,4,5,6,7,0] z,Cj,Ku,A,h⟩
           refine uc 12 k z λk=>Tz (decide (Au<(AK ((Z.length:Int) - 1)))) (λA=>?_) (λA=>?_)
           · have h:=Wp A h;refine rB k 207 z A λk=>ul 11 k z λk=>sv k z (AN av k (cs:=#[I 0,I 0,I 0,I 0,I 0,I 0,.slice none 0 0,.slice none 0 0,I 0,.slice none 0 0]) (ps:=[]) z z AQ) λa k=>pN 1 k z λa k=>sT sizeOf37 m 0 Ao 0 k z z λ_ a k e m D=>ul 5 k z λk=>?_;cases h;exact B4 k z (RV.cA k z SZ (D.at (m.a 0 z) 0 10 z z z) z) (RV.tmp k z) ⟨_,_,z,m.ext,⟨_,[],_,[],_,[],z,z,(A0 _),(A0 _),(A0 _),by simpa [EC] using (m.sl [] z).nd⟩,(A3 AD (A3 AD AD))⟩
           have h:=Ws A h;refine rB k 207 z A λk=>oE h λ_ A h=>hJ 8 [iF (Enc.ow_rd M) A,eF (m.q M 3 z) A 0] h k z (λh k=>?_) λh k=>?_
           · refine uc 2 k z λk=>sv k z (AN av k (cs:=#[I 0,I 0,I 0,I 0,I 0,I 0,.slice none 0 0,.slice none 0 0,I 0,.slice none 0 0]) (ps:=[]) z z AQ) λa k=>pN 1 k z λa k=>sT sizeOf37 m 0 Ao 0 k z z λ_ a k e m A=>ul 5 k z λk=>?_;cases h;exact B4 k z (RV.cA k z SZ (A.at (m.a 0 z) 0 10 z z z) z) (RV.tmp k z) ⟨_,_,z,m.ext,⟨_,[],_,[],_,[],z,z,(A0 _),(A0 _),(A0 _),by simpa [EC] using (m.sl [] z).nd⟩,(A3 AD (A3 AD AD))⟩
           refine gc 5 [bA m 2 Bh z] k z λk=>sT sizeOf37 m 0 Ao 0 k z (AH z (AH z (AH z (AH z (AH z (AH z (AH (A5 (Enc.ow_rd Bw)) (AH (A5 (Enc.ow_rd Cc)) (AH z (AH (A5 (Enc.ow_rd Bz)) DR)))))))))) λ_ a k e m A=>ul 4 k z λk=>?_;cases h;exact B4 k z (RV.cA k z SZ (A.at (m.a 0 z) 0 10 z z z) z) (RV.tmp k z) ⟨_,_,z,m.ext,⟨_,Am,_,Ap,_,Ar,z,z,(m.v Bw 4 z),(m.v Cc 5 z),(m.v Bz 1 z),by simpa [EC] using (m.sl [4,5,1] z).nd⟩,(A3 (m.fresh 4 z) (A3 (m.fresh 5 z) (m.fresh 1 z)))⟩
         exact ⟨_,_,_,_,_,_,_,_,_,_,_,k.p z,(m.addNil (u:=w0)).sel [3,0,5,6,7,4,1] z A1,(A0 _),Jx,Cp,h⟩
       exact ⟨_,_,_,_,_,_,_,_,_,_,_,k.p z,(m.addNil (u:=w0)).sel [2,0,4,5,3,1] z A1,(A0 _),Bl,Cu,h⟩
     exact ⟨_,_,_,_,_,_,_,_,_,_,_,k.p z,(m.addNil (u:=w0)).sel [4,0,5,6,1] z A1,(A0 _),Gb,Cl,h⟩
   refine oE h λ_ A h=>gJ 8 [iF (Enc.ow_rd M) A,eF (m.q M 2 z) A 0] h k z (λh k=>?_) λh k=>?_
   · exact uc 2 k z λk=>sT sizeOf3 m 1 Fl 0 k z z λ_ a k e m A=>ul 2 k z λk=>⟨_,_,k.p z,m.f z,A,h⟩
   exact uc 2 k z λk=>⟨_,_,k.p z,m.f z,Fl,h⟩
 refine uc 5 k z λk=>Tz (decide ((AK ((Z.length:Int) - 1))<1)) (λA=>?_) (λA=>?_)
 · have h:=Wp A h;refine rB k 21 z A λk=>ul 16 k z λk=>sv k z (AN av k (cs:=#[I 0,I 0,I 0,I 0,I 0,I 0,.slice none 0 0,.slice none 0 0,I 0,.slice none 0 0]) (ps:=[]) z z AQ) λa k=>sT sizeOf37 m 2 Ao 0 k z z λ_ a k e m D=>ul 5 k z λk=>?_;cases h;exact B4 k z (RV.cA k z SZ (D.at (m.a 2 z) 0 10 z z z) z) (RV.tmp k z) ⟨_,_,z,m.ext,⟨_,[],_,[],_,[],z,z,(A0 _),(A0 _),(A0 _),by simpa [EC] using (m.sl [] z).nd⟩,(A3 AD (A3 AD AD))⟩
 have h:=Ws A h;refine rB k 21 z A λk=>oE h λ_ A h=>gl 5 [iF (Enc.ow_rd M) A,eF (m.q M 1 z) A 0] k z λk=>bT h k 26 z (λh k=>?_) λh k=>?_
 · refine oE h λ_ _ h=>hJ 8 [iF (Enc.ow_rd M) A,eF (m.q M 1 z) A 0] h k z (λh k=>?_) λh k=>?_
   · refine uc 2 k z λk=>sv k z (AN av k (cs:=#[I 0,I 0,I 0,I 0,I 0,I 0,.slice none 0 0,.slice none 0 0,I 0,.slice none 0 0]) (ps:=[]) z z AQ) λa k=>sT sizeOf37 m 2 Ao 0 k z z λ_ a k e m A=>ul 5 k z λk=>?_;cases h;exact B4 k z (RV.cA k z SZ (A.at (m.a 2 z) 0 10 z z z) z) (RV.tmp k z) ⟨_,_,z,m.ext,⟨_,[],_,[],_,[],z,z,(A0 _),(A0 _),(A0 _),by simpa [EC] using (m.sl [] z).nd⟩,(A3 AD (A3 AD AD))⟩
   exact uc 2 k z λk=>⟨k.p z,m.sl [2,0,1] z,h⟩
 exact ul 11 k z λk=>⟨k.p z,m.sl [2,0,1] z,h⟩
end Go.Proofs.YtdgpkmgnjdpieaaGreatDoor
