/- FnTop: the walks of .. -/
import Derived.Test.YtdgpkmgnjdpieaaGreatDoorTopBWi4
import Derived.Test.YtdgpkmgnjdpieaaGreatDoorTopBWs6
import Derived.Test.YtdgpkmgnjdpieaaGreatDoorTopBWl1
import Derived.Test.YtdgpkmgnjdpieaaGreatDoorTopD
set_option maxRecDepth 20000
set_option linter.unusedSimpArgs false
set_option linter.unusedVariables false
set_option linter.unnecessarySimpa false
namespace Go.Proofs.YtdgpkmgnjdpieaaGreatDoor
open Go Go.RowKit
open Enc (rd ow)
open Arg (argv)
open Ret (retv)
open Go.Proofs.Tryz
theorem ko (fu:Nat) {J:World} (L:Te Tryz.prog J) (N:List U8) {D:Value} {F3:List Nat} (M:rd J F3 [D] N) {r:Bool}
    (h:Xf fu N=some r) :
    Calls Tryz.prog 3 #[D] J λe w=>e=.returned (.bool (r))∧Ext [] J w:=by
 refine en (vs:=[_]) func3 z ntmps3 z λa k m=>?_;unfold Xf at h;refine wr (pN 1 k z λa k=>nn (wp_seq (wr (pN 1 k z λa k=>oE h λ_ D h=>cC k m call4 z (m4 D (m.r M)) λ_ e a k m=>nn (cI h k z (λD h=>?_) λD h=>?_)))))
 · refine wr (pN 1 k z λa k=>nn (wp_ret (Pw ?_)));refine fS h k m z z
 refine wp_skip (AF ?_);refine wr (pN 1 k z λa k=>oE h λD N h=>cC k m call5 z (bj N (m.r M)) λ_ e a k m=>pN 5 k z λa k=>nn (wr (pN 1 k z λa k=>oE h λA M h=>cC k m call6 z (mq M (m.te L)) λ_ e a k m=>pN 5 k z λa k=>nn (wr (pN 1 k z λa k=>oE h λV M h=>cC k m call7 z (cZ M) λ_ e a k m=>pN 5 k z λa k=>nn (nR (λa w=>K 124 [(3,.string (D.1)),(4,.string (D.2)),(5,.string (A.1)),(6,I A.2)] a∧St [] J w []∧Sv fu D A=some r) ?_ ?_))))))
 · rintro a _ ⟨k,m,h⟩;unfold Sv at h;refine wr (pN 2 k z λa k=>oE h λE M h=>cC k m call9 z (Z7 M (m.te L)) λ_ e a k m=>pN 5 k z λa k=>nn (wr (pN 2 k z λa k=>oE h λBg M h=>cC k m call10 z (iw M) λ_ e a k m=>pN 5 k z λa k=>nn (nR (λa w=>K 124 [(3,.string (D.1)),(4,.string (D.2)),(5,.string (A.1)),(6,I A.2),(9,I E.1),(10,I E.2)] a∧St [] J w []∧Sj fu D A E=some r) ?_ ?_))))
   · rintro a _ ⟨k,m,h⟩;unfold Sj at h;refine wp_seq (wr (pN 2 k z λa k=>nn (cI h k z (λM h=>?_) λM h=>?_)))
     · refine wr (pN 3 k z λa k=>Tz (A.1.toList==(⟨#[]⟩:ByteArray).toList) (λN=>?_) (λN=>?_))
       · have h:=Wp N h;refine rB k 74 z N λk=>pN 5 k z λa k=>Tz (E.1==A.2) (λM=>?_) (λM=>?_)
         · have h:=Wp M h;refine rB k 79 z M λk=>pN 4 k z λa k=>nn (wp_ret (Pw ?_));refine fS h k m z z
         have h:=Ws M h;refine rB k 79 z M λk=>pN 4 k z λa k=>nn (wp_ret (Pw ?_));refine fS h k m z z
       have h:=Ws N h;refine rB k 74 z N λk=>pN 9 k z λa k=>nn (wp_ret (Pw ?_));refine fS h k m z z
     refine wp_skip (AF ?_);refine wr (pN 2 k z λa k=>oE h λBr M h=>cC k m call9 z (Z7 M (m.te L)) λ_ e a k m=>pN 5 k z λa k=>nn (nR (λa w=>K 124 [(3,.string (D.1)),(4,.string (D.2)),(10,I E.2)] a∧St [] J w []∧Sz fu D E=some r) ?_ ?_))
     · rintro a _ ⟨k,m,h⟩;unfold Sz at h;refine wr (pN 1 k z λa k=>oE h λT D h=>sC k call11 z (PL D (m.te L)) λ_ _ O=>?_);obtain ⟨_,_,rfl,e,Y,D⟩:=O;refine ⟨_,z,λa k=>?_⟩;have m:=m.nw e D Y;obtain ⟨Ay,_,Az,_,Be,_,rfl,rfl,Z,Q,U,_⟩:=Y;have m:=m.split2;have m:=m.split2at1;refine pN 3 k z λa k=>AP (cs:=[I 0,I 0,I 0,I 0,I 0,I 0,.slice none 0 0,.slice none 0 0,I 0,.slice none 0 0]) m k zeroValue37 z z z z z λ_ _ a k m e D=>sT (cs':=(cR T.1 Ay Az Be)) sizeOf37 m 0 D 0 k z (AH z (AH z (AH z (AH z (AH z (AH z (AH (A5 (Enc.ow_rd Z)) (AH (A5 (Enc.ow_rd Q)) (AH z (AH (A5 (Enc.ow_rd U)) DR)))))))))) λ_ a k e m Bx=>pN 1 k z λa k=>nn (wr (pN 1 k z λa k=>oE h λAq D h=>?_));refine sC k call12 z (YQ D (m.te L)) λ_ _ O=>?_;obtain ⟨_,_,rfl,e,As,D⟩:=O;refine ⟨_,z,λa k=>?_⟩;have m:=m.nw e D As;obtain ⟨Au,_,Ap,_,rfl,rfl,N,O,_⟩:=As;have m:=m.split2
       refine pN 3 k z λa k=>AP (cs:=[.slice none 0 0,.slice none 0 0]) m k zeroValue43 z z z z z λ_ _ a k m e D=>sT (cs':=[Au,Ap]) sizeOf43 m 0 D 0 k z (AH (A5 (Enc.ow_rd N)) (AH (A5 (Enc.ow_rd O)) DR)) λ_ a k e m Y=>pN 1 k z λa k=>nn (wr (pN 3 k z λa k=>Tz (T.2==((-1))) (λJ=>?_) (λJ=>?_)))
       · have h:=Wp J h;refine rB k 107 z J λk=>pN 4 k z λa k=>Tz (Aq.2) (λM=>?_) (λM=>?_)
         · have h:=Wp M h;refine rB k 111 z M λk=>sv k z (rL SZ m 3 Bx 0 k z) λa k=>sv k z (rL YH m 0 Y 0 k z) λa k=>oE h λD T h=>cC k m call13 z (d5 T (AE (m.q Z 4 z) (m.q Q 5 z) (m.q U 6 z)) (GO (m.q N 1 z) (m.q O 2 z))) λ_ e a k m=>pN 2 k z λa k=>?_;refine Tz (D) (λD=>?_) (λD=>?_)
           · have h:=Wp D h;refine rB k 116 z D λk=>sv k z (rL YH m 0 Y 0 k z) λa k=>oE h λ_ Q h=>cC k m call14 z (YR Q (m.te L) (GO (m.q N 1 z) (m.q O 2 z))) λ_ e a k m=>pN 3 k z λa k=>sv k z (ro k underlying4 z z z) λa k=>pN 2 k z λa k=>?_;have k:=k.keep [2] z;refine nn (wp_ret (fS h k m z z))
           have h:=Ws D h;refine rB k 116 z D λk=>pN 5 k z λa k=>sv k z (ro k underlying4 z z z) λa k=>pN 2 k z λa k=>?_;have k:=k.keep [2] z;refine nn (wp_ret (fS h k m z z))
         have h:=Ws M h;refine rB k 111 z M λk=>pN 10 k z λa k=>sv k z (ro k underlying4 z z z) λa k=>pN 2 k z λa k=>?_;have k:=k.keep [2] z;refine nn (wp_ret (fS h k m z z))
       have h:=Ws J h;refine rB k 107 z J λk=>pN 17 k z λa k=>?_;have k:=k.keep [2] z;refine nn (wp_ret (fS h k m z z))
     refine wr (pN 3 k z λa k=>Tz (Br.1 != 0) (λD=>?_) (λD=>?_))
     · have h:=Wp D h;refine rB k 91 z D λk=>pN 3 k z λa k=>nn (wp_cond_true (k.ev z) (wr (pN 1 k z λa k=>nn (wp_ret (Pw ?_)))));refine fS h k m z z
     have h:=Ws D h;refine rB k 91 z D λk=>pN 3 k z λa k=>nn (cI h k z (λD h=>?_) λD h=>?_)
     · refine wr (pN 1 k z λa k=>nn (wp_ret (Pw ?_)));refine fS h k m z z
     refine wp_skip (AF ?_);exact ⟨k.keep [3,4,10] z,m.sl [] z,h⟩
   refine wr (pN 4 k z λa k=>Tz (E.1 != Bg.1) (λD=>?_) (λD=>?_))
   · have h:=Wp D h;refine rB k 65 z D λk=>pN 4 k z λa k=>nn (wp_cond_true (k.ev z) (wr (pN 1 k z λa k=>?_)));have k:=k.keep [2] z;refine nn (wp_ret (Pw ?_));refine fS h k m z z
   have h:=Ws D h;refine rB k 65 z D λk=>pN 4 k z λa k=>nn (cI h k z (λD h=>?_) λD h=>?_)
   · refine wr (pN 1 k z λa k=>?_);have k:=k.keep [2] z;refine nn (wp_ret (Pw ?_));refine fS h k m z z
   refine wp_skip (AF ?_);exact ⟨k.keep [3,4,5,6,9,10] z,m.sl [] z,h⟩
 refine wr (pN 4 k z λa k=>Tz (!(A.1.toList==V.1.toList)) (λD=>?_) (λD=>?_))
 · have h:=Wp D h;refine rB k 39 z D λk=>pN 10 k z λa k=>?_;have k:=k.keep [3,4,5,6,49] z;refine nn (wp_cond_true (k.ev z) (wr (pN 1 k z λa k=>nn (wp_ret (Pw ?_)))));refine fS h k m z z
 have h:=Ws D h;refine rB k 39 z D λk=>pN 5 k z λa k=>Tz (A.2 != V.2) (λA=>?_) (λA=>?_)
 · have h:=Wp A h;refine rB k 44 z A λk=>pN 5 k z λa k=>?_;have k:=k.keep [3,4,5,6,49] z;refine nn (wp_cond_true (k.ev z) (wr (pN 1 k z λa k=>nn (wp_ret (Pw ?_)))));refine fS h k m z z
 have h:=Ws A h;refine rB k 44 z A λk=>pN 2 k z λa k=>oE h λ_ A h=>cC k m call8 z (Xz A (m.te L)) λ_ e a k m=>pN 2 k z λa k=>?_;have k:=k.keep [3,4,5,6,49] z;refine nn (cI h k z (λA h=>?_) λA h=>?_)
 · refine wr (pN 1 k z λa k=>nn (wp_ret (Pw ?_)));refine fS h k m z z
 refine wp_skip (AF ?_);exact ⟨k.keep [3,4,5,6] z,m.sl [] z,h⟩
end Go.Proofs.YtdgpkmgnjdpieaaGreatDoor
