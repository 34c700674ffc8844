/- FnTop: the walks of .. -/
import Derived.Test.YtdgpkmgnjdpieaaGreatDoorTopBWi4
import Derived.Test.YtdgpkmgnjdpieaaGreatDoorTopBWs6
import Derived.Test.YtdgpkmgnjdpieaaGreatDoorTopBWl1
import Derived.Test.YtdgpkmgnjdpieaaGreatDoorTopD
set_option maxRecDepth 20000
set_option linter.unusedSimpArgs false
set_option linter.unusedVariables false
set_option linter.unnecessarySimpa false
namespace Go.Proofs.YtdgpkmgnjdpieaaGreatDoor
open Go Go.RowKit
open Enc (rd ow)
open Arg (argv)
open Ret (retv)
open Go.Proofs.Tryz
theorem kL (fu:Nat) {E:World} (J:Te Tryz.prog E) (M:List U8) {D:Value} {F3:List Nat} (N:rd E F3 [D] M) {r:Bool}
    (h:Xl fu M=some r) :
    Calls Tryz.prog 3 #[D] E λe w=>e=.returned (.bool (r))∧Ext [] E w:=by
 refine en (vs:=[_]) func3 z ntmps3 z λa k m=>?_;unfold Xl at h;refine wr (pN 1 k z λa k=>nn (wp_seq (wr (pN 1 k z λa k=>oE h λ_ D h=>cC k m call4 z (nr D (m.r N)) λ_ e a k m=>nn (cI h k z (λD h=>?_) λD h=>?_)))))
 · refine wr (pN 1 k z λa k=>nn (wp_ret (PV ?_)));refine fS h k m z z
 refine wp_skip (AF ?_);refine wr (pN 1 k z λa k=>oE h λD M h=>cC k m call5 z (bG M (m.r N)) λ_ e a k m=>pN 5 k z λa k=>nn (wr (pN 1 k z λa k=>oE h λA M h=>cC k m call6 z (lW M (m.te J)) λ_ e a k m=>pN 5 k z λa k=>nn (wr (pN 1 k z λa k=>oE h λZ M h=>cC k m call7 z (dj M) λ_ e a k m=>pN 5 k z λa k=>nn (oc (λa w=>K 124 [(3,.string (D.1)),(4,.string (D.2)),(5,.string (A.1)),(6,I A.2)] a∧St [] E w []∧Sj fu D A=some r) ?_ ?_))))))
 · rintro a _ ⟨k,m,h⟩;unfold Sj at h;refine wr (pN 2 k z λa k=>oE h λL M h=>cC k m call9 z (af M (m.te J)) λ_ e a k m=>pN 5 k z λa k=>nn (wr (pN 2 k z λa k=>oE h λBm M h=>cC k m call10 z (iK M) λ_ e a k m=>pN 5 k z λa k=>nn (oc (λa w=>K 124 [(3,.string (D.1)),(4,.string (D.2)),(5,.string (A.1)),(6,I A.2),(9,I L.1),(10,I L.2)] a∧St [] E w []∧Sy fu D A L=some r) ?_ ?_))))
   · rintro a _ ⟨k,m,h⟩;unfold Sy at h;refine wp_seq (wr (pN 2 k z λa k=>nn (cI h k z (λM h=>?_) λM h=>?_)))
     · refine wr (pN 3 k z λa k=>SS (A.1.toList==(⟨#[]⟩:ByteArray).toList) (λN=>?_) (λN=>?_))
       · have h:=WD N h;refine rB k 74 z N λk=>pN 5 k z λa k=>SS (L.1==A.2) (λM=>?_) (λM=>?_)
         · have h:=WD M h;refine rB k 79 z M λk=>pN 4 k z λa k=>nn (wp_ret (PV ?_));refine fS h k m z z
         have h:=WG M h;refine rB k 79 z M λk=>pN 4 k z λa k=>nn (wp_ret (PV ?_));refine fS h k m z z
       have h:=WG N h;refine rB k 74 z N λk=>pN 9 k z λa k=>nn (wp_ret (PV ?_));refine fS h k m z z
     refine wp_skip (AF ?_);refine wr (pN 2 k z λa k=>oE h λBn M h=>cC k m call9 z (af M (m.te J)) λ_ e a k m=>pN 5 k z λa k=>nn (oc (λa w=>K 124 [(3,.string (D.1)),(4,.string (D.2)),(10,I L.2)] a∧St [] E w []∧SH fu D L=some r) ?_ ?_))
     · rintro a _ ⟨k,m,h⟩;unfold SH at h;refine wr (pN 1 k z λa k=>oE h λU D h=>sC k call11 z (PA D (m.te J)) λ_ _ O=>?_);obtain ⟨_,_,rfl,e,Ar,D⟩:=O;refine ⟨_,z,λa k=>?_⟩;have m:=m.nw e D Ar;obtain ⟨Ax,_,Az,_,Aw,_,rfl,rfl,T,Y,V,_⟩:=Ar;have m:=m.split2;have m:=m.split2at1;refine pN 3 k z λa k=>AP (cs:=[I 0,I 0,I 0,I 0,I 0,I 0,.slice none 0 0,.slice none 0 0,I 0,.slice none 0 0]) m k zeroValue37 z z z z z λ_ _ a k m e D=>sT (cs':=(cR U.1 Ax Az Aw)) sizeOf37 m 0 D 0 k z (AH z (AH z (AH z (AH z (AH z (AH z (AH (A5 (Enc.ow_rd T)) (AH (A5 (Enc.ow_rd Y)) (AH z (AH (A5 (Enc.ow_rd V)) DS)))))))))) λ_ a k e m Br=>pN 1 k z λa k=>nn (wr (pN 1 k z λa k=>oE h λAt D h=>?_));refine sC k call12 z (YY D (m.te J)) λ_ _ O=>?_;obtain ⟨_,_,rfl,e,Q,D⟩:=O;refine ⟨_,z,λa k=>?_⟩;have m:=m.nw e D Q;obtain ⟨Ap,_,As,_,rfl,rfl,O,N,_⟩:=Q;have m:=m.split2
       refine pN 3 k z λa k=>AP (cs:=[.slice none 0 0,.slice none 0 0]) m k zeroValue43 z z z z z λ_ _ a k m e D=>sT (cs':=[Ap,As]) sizeOf43 m 0 D 0 k z (AH (A5 (Enc.ow_rd O)) (AH (A5 (Enc.ow_rd N)) DS)) λ_ a k e m Q=>pN 1 k z λa k=>nn (wr (pN 3 k z λa k=>SS (U.2==((-1))) (λE=>?_) (λE=>?_)))
       · have h:=WD E h;refine rB k 107 z E λk=>pN 4 k z λa k=>SS (At.2) (λM=>?_) (λM=>?_)
         · have h:=WD M h;refine rB k 111 z M λk=>sv k z (rL SY m 3 Br 0 k z) λa k=>sv k z (rL YM m 0 Q 0 k z) λa k=>oE h λU D h=>cC k m call13 z (ed D (AE (m.q T 4 z) (m.q Y 5 z) (m.q V 6 z)) (GO (m.q O 1 z) (m.q N 2 z))) λ_ e a k m=>pN 2 k z λa k=>?_;refine SS (U) (λD=>?_) (λD=>?_)
           · have h:=WD D h;refine rB k 116 z D λk=>sv k z (rL YM m 0 Q 0 k z) λa k=>oE h λ_ Q h=>cC k m call14 z (Y3 Q (m.te J) (GO (m.q O 1 z) (m.q N 2 z))) λ_ e a k m=>pN 3 k z λa k=>sv k z (q9 k underlying4 z z z) λa k=>pN 2 k z λa k=>?_;have k:=k.keep [2] z;refine nn (wp_ret (fS h k m z z))
           have h:=WG D h;refine rB k 116 z D λk=>pN 5 k z λa k=>sv k z (q9 k underlying4 z z z) λa k=>pN 2 k z λa k=>?_;have k:=k.keep [2] z;refine nn (wp_ret (fS h k m z z))
         have h:=WG M h;refine rB k 111 z M λk=>pN 10 k z λa k=>sv k z (q9 k underlying4 z z z) λa k=>pN 2 k z λa k=>?_;have k:=k.keep [2] z;refine nn (wp_ret (fS h k m z z))
       have h:=WG E h;refine rB k 107 z E λk=>pN 17 k z λa k=>?_;have k:=k.keep [2] z;refine nn (wp_ret (fS h k m z z))
     refine wr (pN 3 k z λa k=>SS (Bn.1 != 0) (λD=>?_) (λD=>?_))
     · have h:=WD D h;refine rB k 91 z D λk=>pN 3 k z λa k=>nn (wp_cond_true (k.ev z) (wr (pN 1 k z λa k=>nn (wp_ret (PV ?_)))));refine fS h k m z z
     have h:=WG D h;refine rB k 91 z D λk=>pN 3 k z λa k=>nn (cI h k z (λD h=>?_) λD h=>?_)
     · refine wr (pN 1 k z λa k=>nn (wp_ret (PV ?_)));refine fS h k m z z
     refine wp_skip (AF ?_);exact ⟨k.keep [3,4,10] z,m.sl [] z,h⟩
   refine wr (pN 4 k z λa k=>SS (L.1 != Bm.1) (λD=>?_) (λD=>?_))
   · have h:=WD D h;refine rB k 65 z D λk=>pN 4 k z λa k=>nn (wp_cond_true (k.ev z) (wr (pN 1 k z λa k=>?_)));have k:=k.keep [2] z;refine nn (wp_ret (PV ?_));refine fS h k m z z
   have h:=WG D h;refine rB k 65 z D λk=>pN 4 k z λa k=>nn (cI h k z (λD h=>?_) λD h=>?_)
   · refine wr (pN 1 k z λa k=>?_);have k:=k.keep [2] z;refine nn (wp_ret (PV ?_));refine fS h k m z z
   refine wp_skip (AF ?_);exact ⟨k.keep [3,4,5,6,9,10] z,m.sl [] z,h⟩
 refine wr (pN 4 k z λa k=>SS (!(A.1.toList==Z.1.toList)) (λD=>?_) (λD=>?_))
 · have h:=WD D h;refine rB k 39 z D λk=>pN 10 k z λa k=>?_;have k:=k.keep [3,4,5,6,49] z;refine nn (wp_cond_true (k.ev z) (wr (pN 1 k z λa k=>nn (wp_ret (PV ?_)))));refine fS h k m z z
 have h:=WG D h;refine rB k 39 z D λk=>pN 5 k z λa k=>SS (A.2 != Z.2) (λA=>?_) (λA=>?_)
 · have h:=WD A h;refine rB k 44 z A λk=>pN 5 k z λa k=>?_;have k:=k.keep [3,4,5,6,49] z;refine nn (wp_cond_true (k.ev z) (wr (pN 1 k z λa k=>nn (wp_ret (PV ?_)))));refine fS h k m z z
 have h:=WG A h;refine rB k 44 z A λk=>pN 2 k z λa k=>oE h λ_ A h=>cC k m call8 z (X0 A (m.te J)) λ_ e a k m=>pN 2 k z λa k=>?_;have k:=k.keep [3,4,5,6,49] z;refine nn (cI h k z (λA h=>?_) λA h=>?_)
 · refine wr (pN 1 k z λa k=>nn (wp_ret (PV ?_)));refine fS h k m z z
 refine wp_skip (AF ?_);exact ⟨k.keep [3,4,5,6] z,m.sl [] z,h⟩
end Go.Proofs.YtdgpkmgnjdpieaaGreatDoor
