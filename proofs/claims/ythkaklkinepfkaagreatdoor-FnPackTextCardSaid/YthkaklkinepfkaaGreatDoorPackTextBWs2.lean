/- FnPackText: the walk.. -/
import Derived.Test.YthkaklkinepfkaaGreatDoorPackTextBWs1
set_option maxRecDepth 20000
set_option linter.unusedSimpArgs false
set_option linter.unusedVariables false
set_option linter.unnecessarySimpa false
namespace Go.Proofs.YthkaklkinepfkaaGreatDoor
open Go Go.RowKit
open Enc (rd ow)
open Arg (argv)
open Ret (retv)
open Go.Proofs.Tryz
theorem Q2z (fu) {w0} (x1) {r} (h:Qry fu x1=some r):cS 195 [.agg (Flat.e (x1)).toArray] w0 (.bool (r)):=by
 refine eg func195 z ntmps195 z λk m=>uc 2 k z λk=>Qbd m k z z z z z z λb2 w4 a k m e Aa=>oE h λx5 Aj h=>gl 7 [bF m 0 Aa z] k z λk=>cC k m call79 z (Qub fu _  Aj) λw9 e a k m=>pN 1 k z λa k=>bS h k 6 z (λ_ h k=>?_) λ_ h k=>?_
 · refine oE h λAm Ai h=>gl 2 [bF m 0 Aa z] k z λk=>cC k m call264 z (Qgh fu _  Ai) λAx e a k m=>pN 2 k z λa k=>bS h k 11 z (λ_ h k=>?_) λ_ h k=>?_
   · refine oE h λAp As h=>gl 2 [bF m 0 Aa z] k z λk=>cC k m call264 z (Qgh fu _  As) λBa e a k m=>pN 2 k z λa k=>bS h k 16 z (λ_ h k=>?_) λ_ h k=>?_
     · refine oE h λAo Ak h=>gl 2 [bF m 0 Aa z] k z λk=>cC k m call264 z (Qgh fu _  Ak) λAv e a k m=>pN 2 k z λa k=>bS h k 21 z (λ_ h k=>?_) λ_ h k=>?_
       · refine oE h λAl At h=>gl 2 [bF m 0 Aa z] k z λk=>cC k m call39 z (Qau fu _ _ _  At) λAw e a k m=>pN 2 k z λa k=>bS h k 26 z (λ_ h k=>?_) λ_ h k=>?_
         · refine oE h λAr Aq h=>gl 2 [bF m 0 Aa z] k z λk=>cC k m call39 z (Qau fu _ _ _  Aq) λAu e a k m=>pN 2 k z λa k=>bS h k 31 z (λ_ h k=>?_) λ_ h k=>?_
           · refine oE h λAy Ah h=>gl 2 [bF m 0 Aa z] k z λk=>cC k m call39 z (Qau fu _ _ _  Ah) λAz e a k m=>ul 5 k z λk=>fS h k m z z
           refine ul 8 k z λk=>fS h k m z z
         refine ul 13 k z λk=>fS h k m z z
       refine ul 18 k z λk=>fS h k m z z
     refine ul 23 k z λk=>fS h k m z z
   refine ul 28 k z λk=>fS h k m z z
 refine ul 33 k z λk=>fS h k m z z
theorem Qz1 (fu) {w0} (r1) {Av F3} (Ay:rd w0 F3 Av r1) {r} (h:Qny fu r1=some r):cS 117 [.agg Av.toArray] w0 (.bool (r)):=by
 refine eg func117 z ntmps117 z λk m=>?_;obtain ⟨v5,F6,v7,F8,v9,Cn,rfl,rfl,Ad,Al,Ac⟩:=Ay;refine uc 2 k z λk=>Qbd m k z z z z z z λAb Am a k m e Aa=>ul 3 k z λk=>cg (λa w=>K 111 [(1,pt Ab)] a∧St [] w0 w [([Ab],Am)]∧Qnr fu r1=some r) ?_ ?_
 · rintro a Bx ⟨k,m,h⟩;refine uc 7 k z λk=>lG (λn a w=>∃ Ae,K 111 [(1,pt Ab),(3,I Ae)] a∧St [] w0 w [([Ab],Am)]∧Qdq fu r1 n Ae=some r) ?_ fu ?_
   · rintro Bb a Cd ⟨Ae,k,m,h⟩;refine gc 10 [bF m 0 Aa z,lF Ad] k z λk=>cJ h k z (λh=>?_) λh=>?_
     · refine uc 2 k z λk=>cg (λa w=>K 111 [(1,pt Ab),(3,I Ae)] a∧St [] w0 w [([Ab],Am)]∧Qos fu (Qdq fu r1 Bb) Ae=some r) ?_ ?_
       · rintro a Ck ⟨k,m,h⟩;refine uc 6 k z λk=>?_;exact ⟨_,k.p z,m.sl [0] z,h⟩
       refine o2 h λCp Aq Bk Bi h=>gc 9 [bF m 0 Aa z,iF Ad Aq,eF (m.r Ad) Aq 0] k z λk=>cC k m call39 z (Qau fu _ _ _  Bi) λCo e a k m=>pN 2 k z λa k=>bS h k 63 z (λ_ h k=>?_) λ_ h k=>?_
       · refine ul 23 k z λk=>fS h k m z z
       refine o2 h λBz Ci Ce Bo h=>gl 6 [bF m 0 Aa z,iF Ad Aq,eF (m.r Ad) Aq 1] k z λk=>cC k m call39 z (Qau fu _ _ _  Bo) λCl e a k m=>ul 4 k z λk=>cJ h k z (λh=>?_) λh=>?_
       · refine uc 11 k z λk=>fS h k m z z
       refine uc 3 k z λk=>?_;exact ⟨k.p z,m.sl [0] z,h⟩
     refine uc 12 k z λk=>lG (λn a w=>∃ At,K 111 [(1,pt Ab),(4,I At)] a∧St [] w0 w [([Ab],Am)]∧Qds fu r1 n At=some r) ?_ fu ?_
     · rintro Ct a Ca ⟨At,k,m,h⟩;refine gc 10 [bF m 0 Aa z,lF Al] k z λk=>cJ h k z (λh=>?_) λh=>?_
       · refine o2 h λBv Au By Bj h=>gc 11 [bF m 0 Aa z,iF Al Au,eA (m.r Al) Au] k z λk=>cC k m call194 z (Q2y fu (Bv:Typ)  Bj) λCc e a k m=>ul 3 k z λk=>cJ h k z (λh=>?_) λh=>?_
         · refine uc 11 k z λk=>fS h k m z z
         refine uc 9 k z λk=>?_;exact ⟨_,k.p z,m.sl [0] z,h⟩
       refine uc 17 k z λk=>lG (λn a w=>∃ Ar As,K 111 [(1,pt Ab),(5,I Ar),(6,I As)] a∧St [] w0 w [([Ab],Am)]∧Qdp fu r1 n Ar As=some r) ?_ fu ?_
       · rintro Cg a Bw ⟨Ar,As,k,m,h⟩;refine gc 10 [bF m 0 Aa z,lF Ac] k z λk=>cJ h k z (λh=>?_) λh=>?_
         · refine o2 h λAw Ap Cb Bq h=>gc 12 [bF m 0 Aa z,iF Ac Ap,eA (m.r Ac) Ap] k z λk=>cC k m call195 z (Q2z fu (Aw:Item)  Bq) λCu e a k m=>ul 3 k z λk=>cJ h k z (λh=>?_) λh=>?_
           · refine uc 12 k z λk=>fS h k m z z
           refine oE h λCv Cs h=>gc 21 [bF m 0 Aa z,iF Ac Ap,eF (m.r Ac) Ap 6] k z λk=>?_;exact ⟨_,_,k.p z,m.sl [0] z,h⟩
         refine uc 13 k z λk=>fS h k m z z
       exact ⟨_,_,k.p z,m.sl [0] z,h⟩
     exact ⟨_,k.p z,m.sl [0] z,h⟩
   exact ⟨_,k.p z,m.sl [0] z,h⟩
 refine oE h λBs Bf h=>gc 4 [bF m 0 Aa z] k z λk=>cC k m call39 z (Qau fu _ _ _  Bf) λCq e a k m=>pN 2 k z λa k=>bS h k 11 z (λ_ h k=>?_) λ_ h k=>?_
 · refine ul 46 k z λk=>fS h k m z z
 refine oE h λBg Bl h=>gl 2 [bA m 0 Aa z] k z λk=>cC k m call193 z (Qo5 fu (r1.fJ:Pallet)  Bl) λCr e a k m=>pN 3 k z λa k=>bS h k 17 z (λ_ h k=>?_) λ_ h k=>?_
 · refine ul 40 k z λk=>fS h k m z z
 refine oE h λBh Az h=>gl 2 [bF m 0 Aa z] k z λk=>cC k m call39 z (Qau fu _ _ _  Az) λCh e a k m=>pN 3 k z λa k=>bS h k 23 z (λ_ h k=>?_) λ_ h k=>?_
 · refine ul 34 k z λk=>fS h k m z z
 refine gl 6 [bF m 0 Aa z,lF Ad] k z λk=>bS h k 29 z (λ_ h k=>?_) λ_ h k=>?_
 · refine ul 28 k z λk=>fS h k m z z
 refine oE h λBa Bm h=>gl 3 [bF m 0 Aa z,lF Al] k z λk=>cC k m call39 z (Qau fu _ _ _  Bm) λCj e a k m=>pN 3 k z λa k=>bS h k 36 z (λ_ h k=>?_) λ_ h k=>?_
 · refine ul 21 k z λk=>fS h k m z z
 refine oE h λBt Bc h=>gl 2 [bF m 0 Aa z] k z λk=>cC k m call79 z (Qub fu _  Bc) λCm e a k m=>pN 3 k z λa k=>bS h k 42 z (λ_ h k=>?_) λ_ h k=>?_
 · refine ul 15 k z λk=>fS h k m z z
 refine gl 7 [bF m 0 Aa z,lF Ac] k z λk=>cJ h k z (λh=>?_) λh=>?_
 · refine uc 7 k z λk=>fS h k m z z
 refine uc 2 k z λk=>?_;exact ⟨k.p z,m.sl [0] z,h⟩
theorem Qjo (fu) {w0} (r1) {Ah F3} (Aj:rd w0 F3 Ah r1) {r} (h:Qfm fu r1=some r):cS 120 [.agg Ah.toArray] w0 (.tuple #[.agg (Flat.e r.1).toArray,.bool (r.2)]):=by
 refine eg func120 z ntmps120 z λk m=>?_;obtain ⟨v5,F6,v7,F8,v9,Az,rfl,rfl,Ba,Ab,As⟩:=Aj;refine uc 2 k z λk=>Qbd m k z z z z z z λAf Ar a k m e Ad=>Qaj m k zeroValue61 z z z z z λAi Ap a k m e Ag=>ul 10 k z λk=>lG (λn a w=>∃ Ac,K 27 [(1,pt Af),(2,pt Ai),(4,I Ac)] a∧St [] w0 w [([Af],Ar),([Ai],Ap)]∧Qfx fu r1 n Ac=some r) ?_ fu ?_
 · rintro Ay a Av ⟨Ac,k,m,h⟩;refine gc 10 [bF m 0 Ad z,lF Ab] k z λk=>cJ h k z (λh=>?_) λh=>?_
   · refine uc 5 k z λk=>Qgu [] Qge m z λAq hMd=>?_;have m:=hMd;have s:=Ext.refl ([]:List Nat) Aq;refine oE h λAa Ae h=>dr [2,0,1,3,4,5,6,7,8] 9 [bF hMd 0 Ad z,iF Ab Ae,eF (hMd.r Ab) Ae 0,bF hMd 0 Ad z] k z s λk=>dD ((Qad ?_));refine cJ h k z (λh=>?_) λh=>?_
     · refine oE h λAt Au h=>gc 7 [bF m 0 Ad z,iF Ab Ae,eA (m.r Ab) Ae] k z λk=>sT sizeOf61 m 1 Ag 0 k z z λAw a k e m Am=>ul 9 k z λk=>?_;cases h;exact Qdy k z (RV.cA k z Q8j (Am.at (m.a 1 z) 0 7 z z z) z) (RV.tmp k z) ⟨z,m.ext⟩
     refine uc 9 k z λk=>?_;exact ⟨_,k.p z,m.sl [0,1] z,h⟩
   refine uc 7 k z λk=>sv k z (Qag Q47 k (cs:=#[I 0,I 0,I 0,I 0,I 0,I 0,I 0]) (ps:=[]) z z (by kernel_rfl)) λa k=>sT sizeOf61 m 1 Ag 0 k z z λAx a k e m Ao=>ul 4 k z λk=>?_;cases h;exact Qdy k z (RV.cA k z Q8j (Ao.at (m.a 1 z) 0 7 z z z) z) (RV.tmp k z) ⟨z,m.ext⟩
 exact ⟨_,k.p z,m.sl [1,0] z,h⟩
theorem Q1f (fu) {w0} (r1) {As F3} (Aw:rd w0 F3 As r1) {r} (h:Qqy fu r1=some r):cS 118 [.agg As.toArray] w0 (.bool (r)):=by
 refine eg func118 z ntmps118 z λk m=>?_;obtain ⟨v5,F6,v7,F8,v9,Cc,rfl,rfl,Ad,Ae,Ab⟩:=Aw;refine uc 2 k z λk=>Qbd m k z z z z z z λAc Ah a k m e Aa=>ul 10 k z λk=>lG (λn a w=>∃ Ag,K 102 [(1,pt Ac),(3,I Ag)] a∧St [] w0 w [([Ac],Ah)]∧Qbn fu r1 n Ag=some r) ?_ fu ?_
 · rintro Bk a Bv ⟨Ag,k,m,h⟩;refine gc 10 [bF m 0 Aa z,lF Ae] k z λk=>cJ h k z (λh=>?_) λh=>?_
   · refine uc 10 k z λk=>lG (λn a w=>∃ Al,K 102 [(1,pt Ac),(3,I Ag),(4,I Al)] a∧St [] w0 w [([Ac],Ah)]∧Qd9 fu (Qbn fu r1 Bk) r1 Ag n Al=some r) ?_ fu ?_
     · rintro Ce a Bz ⟨Al,k,m,h⟩;refine uc 8 k z λk=>cJ h k z (λh=>?_) λh=>?_
       · refine uc 5 k z λk=>Qgu [] Qge m z λAx hMd=>?_;have m:=hMd;have s:=Ext.refl ([]:List Nat) Ax;refine o2 h λCk Ar Ci Au h=>dr [2,8,0,1,3,4,5,6,7,9,10,11,12] 13 [bF hMd 0 Aa z,iF Ae Ar,eF (hMd.r Ae) Ar 0,bF hMd 0 Aa z,iF Ae Au,eF (hMd.r Ae) Au 0] k z s λk=>dD ((Qad ?_));refine cJ h k z (λh=>?_) λh=>?_
         · refine uc 15 k z λk=>fS h k m z z
         refine uc 9 k z λk=>?_;exact ⟨_,k.p z,m.sl [0] z,h⟩
       refine uc 12 k z λk=>?_;exact ⟨_,k.p z,m.sl [0] z,h⟩
     exact ⟨_,k.p z,m.sl [0] z,h⟩
   refine uc 12 k z λk=>lG (λn a w=>∃ Ai,K 102 [(1,pt Ac),(5,I Ai)] a∧St [] w0 w [([Ac],Ah)]∧Qbi fu r1 n Ai=some r) ?_ fu ?_
   · rintro Bc a Cd ⟨Ai,k,m,h⟩;refine gc 10 [bF m 0 Aa z,lF Ab] k z λk=>cJ h k z (λh=>?_) λh=>?_
     · refine uc 6 k z λk=>Qgu [] Qge m z λBm hMd=>?_;have m:=hMd;have s:=Ext.refl ([]:List Nat) Bm;refine oE h λBr Ap h=>dr [2,0,1,3,4,5,6,7,8] 9 [bF hMd 0 Aa z,iF Ab Ap,eF (hMd.r Ab) Ap 5,bF hMd 0 Aa z] k z s λk=>dD ((Qad ?_));refine cJ h k z (λh=>?_) λh=>?_
       · refine uc 12 k z λk=>fS h k m z z
       refine uc 8 k z λk=>lG (λn a w=>∃ Am,K 102 [(1,pt Ac),(5,I Ai),(6,I Am)] a∧St [] w0 w [([Ac],Ah)]∧Qeb fu (Qbi fu r1 Bc) r1 Ai n Am=some r) ?_ fu ?_
       · rintro Cg a Bx ⟨Am,k,m,h⟩;refine uc 8 k z λk=>cJ h k z (λh=>?_) λh=>?_
         · refine uc 5 k z λk=>Qgu [] Qge m z λBe hMd=>?_;have m:=hMd;have s:=Ext.refl ([]:List Nat) Be;refine o2 h λCh Aq Bu At h=>dr [2,8,0,1,3,4,5,6,7,9,10,11,12] 13 [bF hMd 0 Aa z,iF Ab Aq,eF (hMd.r Ab) Aq 0,bF hMd 0 Aa z,iF Ab At,eF (hMd.r Ab) At 0] k z s λk=>dD ((Qad ?_));refine cJ h k z (λh=>?_) λh=>?_
           · refine uc 15 k z λk=>fS h k m z z
           refine uc 9 k z λk=>?_;exact ⟨_,k.p z,m.sl [0] z,h⟩
         refine uc 12 k z λk=>?_;exact ⟨_,k.p z,m.sl [0] z,h⟩
       exact ⟨_,k.p z,m.sl [0] z,h⟩
     refine uc 12 k z λk=>lG (λn a w=>∃ Aj,K 102 [(1,pt Ac),(7,I Aj)] a∧St [] w0 w [([Ac],Ah)]∧Qda fu r1 n Aj=some r) ?_ fu ?_
     · rintro Bg a Bp ⟨Aj,k,m,h⟩;refine gc 10 [bF m 0 Aa z,lF Ad] k z λk=>cJ h k z (λh=>?_) λh=>?_
       · refine uc 2 k z λk=>cg (λa w=>K 102 [(1,pt Ac),(7,I Aj)] a∧St [] w0 w [([Ac],Ah)]∧Qpq fu (Qda fu r1 Bg) Aj=some r) ?_ ?_
         · rintro a Bw ⟨k,m,h⟩;refine uc 6 k z λk=>?_;exact ⟨_,k.p z,m.sl [0] z,h⟩
         refine uc 2 k z λk=>Qgu [] Qge m z λAv hMd=>?_;have m:=hMd;have s:=Ext.refl ([]:List Nat) Av;refine oE h λBn Ao h=>dr [2,0,1,3,4,5,6,7,8,9] 10 [bF hMd 0 Aa z,iF Ad Ao,eF (hMd.r Ad) Ao 0,bF hMd 0 Aa z] k z s λk=>bS h k 85 z (λ_ h k=>?_) λ_ h k=>?_
         · refine dM [10,11,12,13,14,15,16,17,18,19] 10 z k z s λa k=>dD ?_;refine (Qad ?_);refine uc 12 k z λk=>fS h k m z z
         refine oE h λBs By h=>dr [12,10,11,13,14,15,16,17,18,19] 10 [bF hMd 0 Aa z,iF Ad Ao,eF (hMd.r Ad) Ao 1,bF hMd 0 Aa z] k z s λk=>dD ?_;refine (Qad ?_);refine cJ h k z (λh=>?_) λh=>?_
         · refine uc 11 k z λk=>fS h k m z z
         refine uc 3 k z λk=>?_;exact ⟨k.p z,m.sl [0] z,h⟩
       refine oE h λAf Bh h=>gc 8 [bA m 0 Aa z] k z λk=>cC k m call120 z (Qjo fu _ (Qac (m.r Ad) (m.r Ae) (m.r Ab)) Bh) λCb e a k m=>pN 3 k z λa k=>Qaj m k zeroValue61 z z z z z λCj Bt a k m e Bb=>sT sizeOf61 m 0 Bb 0 k z z λCa a k e m Bq=>ul 10 k z λk=>fS h k m z z
     exact ⟨_,k.p z,m.sl [0] z,h⟩
   exact ⟨_,k.p z,m.sl [0] z,h⟩
 exact ⟨_,k.p z,m.sl [0] z,h⟩
theorem Qim (fu) {w0} (Ad a5 b6) {v2 F3} (Aa:rd w0 F3 [v2] Ad) {r} (h:Qfj fu Ad a5 b6=some r):cS 196 [v2,I a5,I b6] w0 (.bool (r)):=by
 refine eg func196 z ntmps196 z λk m=>uc 12 k z λk=>lG (λn a w=>∃ Ab,K 30 [(0,v2),(1,I a5),(2,I b6),(7,I Ab)] a∧St [] w0 w []∧Qf9 fu Ad a5 b6 n Ab=some r) ?_ fu ?_
 · rintro Ai a Al ⟨Ab,k,m,h⟩;refine gc 9 [lF Aa] k z λk=>cJ h k z (λh=>?_) λh=>?_
   · refine uc 2 k z λk=>cg (λa w=>K 30 [(0,v2),(1,I a5),(2,I b6),(7,I Ab)] a∧St [] w0 w []∧Ql4 fu (Qf9 fu Ad a5 b6 Ai) Ab=some r) ?_ ?_
     · rintro a Aj ⟨k,m,h⟩;refine uc 6 k z λk=>?_;exact ⟨_,k.p z,m.sl [] z,h⟩
     refine oE h λAg Ae h=>gc 11 [iF Aa Ae,eF (m.r Aa) Ae 0] k z λk=>bS h k 21 z (λ_ h k=>?_) λ_ h k=>?_
     · refine oE h λAk Am h=>gl 10 [iF Aa Ae,eF (m.r Aa) Ae 1] k z λk=>cJ h k z (λh=>?_) λh=>?_
       · refine uc 11 k z λk=>fS h k m z z
       refine uc 3 k z λk=>?_;exact ⟨k.p z,m.sl [] z,h⟩
     refine ul 14 k z λk=>?_;exact ⟨k.p z,m.sl [] z,h⟩
   refine uc 11 k z λk=>fS h k m z z
 exact ⟨_,k.p z,m.sl [] z,h⟩
theorem Q0v (fu) {w0} (Ad Ab) {v2 F3} (Aa:rd w0 F3 [v2] Ad) {r} (h:Qqa fu Ad Ab=some r):cS 119 [v2,I Ab] w0 (.bool (r)):=by
 refine eg func119 z ntmps119 z λk m=>oE h λx6 At h=>uc 9 k z λk=>cC k m call39 z (Qau fu _ _ _  At) λw9 e a k m=>ul 3 k z λk=>cJ h k z (λh=>?_) λh=>?_
 · refine uc 7 k z λk=>fS h k m z z
 refine uc 9 k z λk=>lG (λn a w=>∃ Ac,K 41 [(0,v2),(1,I Ab),(5,I Ac)] a∧St [] w0 w []∧Qdh fu Ad Ab n Ac=some r) ?_ fu ?_
 · rintro Ah a Bh ⟨Ac,k,m,h⟩;refine uc 8 k z λk=>cJ h k z (λh=>?_) λh=>?_
   · refine uc 10 k z λk=>lG (λn a w=>∃ Ae,K 41 [(0,v2),(1,I Ab),(5,I Ac),(6,I Ae)] a∧St [] w0 w []∧Qd5 fu (Qdh fu Ad Ab Ah) Ad Ab Ac n Ae=some r) ?_ fu ?_
     · rintro Aj a Ay ⟨Ae,k,m,h⟩;refine uc 8 k z λk=>cJ h k z (λh=>?_) λh=>?_
       · refine uc 2 k z λk=>cg (λa w=>K 41 [(0,v2),(1,I Ab),(5,I Ac),(6,I Ae)] a∧St [] w0 w []∧Qkl fu (Qd5 fu (Qdh fu Ad Ab Ah) Ad Ab Ac Aj) Ae=some r) ?_ ?_
         · rintro a Az ⟨k,m,h⟩;refine uc 6 k z λk=>?_;exact ⟨_,k.p z,m.sl [] z,h⟩
         refine uc 7 k z λk=>bS h k 23 z (λ_ h k=>?_) λ_ h k=>?_
         · refine pN 3 k z λa k=>oE h λAi Ap h=>cC k m call196 z (Qim fu _ _ _ (m.r Aa) Ap) λBc e a k m=>pN 3 k z λa k=>bS h k 30 z (λ_ h k=>?_) λ_ h k=>?_
           · refine ul 28 k z λk=>fS h k m z z
           refine pN 3 k z λa k=>oE h λBe Ak h=>cC k m call196 z (Qim fu _ _ _ (m.r Aa) Ak) λBb e a k m=>pN 3 k z λa k=>oE h λAw Ao h=>cC k m call196 z (Qim fu _ _ _ (m.r Aa) Ao) λBa e a k m=>sv k z (Je9 k underlying4 z z z) λa k=>ul 3 k z λk=>cJ h k z (λh=>?_) λh=>?_
           · refine uc 15 k z λk=>fS h k m z z
           refine uc 3 k z λk=>?_;exact ⟨k.p z,m.sl [] z,h⟩
         refine pN 10 k z λa k=>oE h λBg Ar h=>cC k m call196 z (Qim fu _ _ _ (m.r Aa) Ar) λAx e a k m=>pN 3 k z λa k=>oE h λBf Au h=>cC k m call196 z (Qim fu _ _ _ (m.r Aa) Au) λBd e a k m=>sv k z (Je9 k underlying4 z z z) λa k=>ul 3 k z λk=>cJ h k z (λh=>?_) λh=>?_
         · refine uc 15 k z λk=>fS h k m z z
         refine uc 3 k z λk=>?_;exact ⟨k.p z,m.sl [] z,h⟩
       refine uc 12 k z λk=>?_;exact ⟨_,k.p z,m.sl [] z,h⟩
     exact ⟨_,k.p z,m.sl [] z,h⟩
   refine uc 11 k z λk=>fS h k m z z
 exact ⟨_,k.p z,m.sl [] z,h⟩
theorem Qus (fu) {w0} (n1) {r} (h:Qi7 fu n1=some r):cL 202 [I n1] w0 r:=by
 refine eg func202 z ntmps202 z λk m=>uc 7 k z λk=>sB Qbf m k z (by exact fN) λg2 w3 e5 a k m e Aj=>?_;have Ap:=Qai Aj ([]:List Int) z z z;refine ul 10 k z λk=>lG (λn a w=>∃ Ad Ae Ab Ac Aa,K 16 [(0,I n1),(3,Ae),(4,I Aa)] a∧St [] w0 w [(Ab,Ac)]∧ow Ac Ab [Ae] Ad∧Qfz fu n1 n Ad Aa=some r) ?_ fu ?_
 · rintro As a Au ⟨Ad,Ae,Ab,Ac,Aa,k,m,Af,h⟩;refine uc 8 k z λk=>cJ h k z (λh=>?_) λh=>?_
   · refine uc 7 k z λk=>sB Qbf m k z (by exact fC z fN) λAw At Av a k m e Ah=>?_;have Al:=Qai Ah ([Aa]:List Int) z z z;refine oE h λAo Ar h=>Qcy Ar Qbf z m 1 Af (News.rd (m.q Al 0 z)) z z k z z z z z z z λAm Ak Ai a k e m Ag=>ul 10 k z λk=>?_;exact ⟨_,_,_,_,_,k.p z,m.sl [1] z,Ag,h⟩
   refine uc 12 k z λk=>?_;cases h;exact Qbj k z (RV.tmp k z) ⟨_,Ab,z,m.ext,(m.v Af 0 z),(m.fresh 0 z)⟩
 exact ⟨_,_,_,_,_,k.p z,m.sl [0] z,Ap,h⟩
theorem Qx2 (fu:Nat):∀ (nr:Nat) {w0:World} (Am:List Int) (Bb:List Int) (Ai:Bool) {v2:Value} {F3:List Nat} (Aa:rd w0 F3 [v2] Am) {v6:Value} {F7:List Nat} (Ak:rd w0 F7 [v6] Bb) {r:(List Int)} (h:Qit fu nr Am Bb Ai=some r),Calls Tryz.prog 201 #[v2,v6,.bool (Ai)] w0 λe w=>∃ (v0:Value) (G0:List Nat),e=.returned (v0)∧Ext [] w0 w∧ow w G0 [v0] r∧(∀ b∈G0,w0.heap.size≤b):=by
 intro nr
 induction nr with
 | zero =>
   intros
   rename_i h
   exact nS h
 | succ nr ih =>
 intro w0 Am Bb Ai v2 F3 Aa v6 F7 Ak r h;refine eg (vs:=[_,_,_]) func201 z ntmps201 z λk m=>gc 13 [lF Ak] k z λk=>cJ h k z (λh=>?_) λh=>?_
 · refine uc 2 k z λk=>sB Qbf m k z (by exact fN) λHl Hx Fw a k m e Cb=>?_;have Dr:=Qai Cb ([]:List Int) z z z;refine pN 1 k z λa k=>oE h λGb Ed h=>Qcy Ed Qbf z m 0 Dr (News.rd (m.r Ak)) z z k z z z z z z z λGy Du If a k e m Ce=>ul 5 k z λk=>?_;cases h;exact Qbj k z (RV.tmp k z) ⟨_,Du,z,m.ext,(m.v Ce 0 z),(m.fresh 0 z)⟩
 refine oE h λGu Ck h=>gc 15 [lF Ak] k z λk=>Q1y Ak Ck k Qlz z z z z z z λHg a k Bo=>pN 1 k z λa k=>oE h λAx Ea h=>sC k call201 z (ih _ _ _ (m.r Aa) (m.r Bo) Ea) λFv Bg hR=>?_;obtain ⟨Bk,Be,rfl,e,Ab,Dl⟩:=hR;refine ⟨_,z,λa k=>?_⟩;have m:=m.nw e Dl Ab;refine oE h λGp Dt h=>ul 8 k z λk=>Jdu Ak Dt k Qlz z z z z z z λGv a k Bj=>pN 1 k z λa k=>oE h λBd Ct h=>sC k call201 z (ih _ _ _ (m.r Aa) (m.r Bj) Ct) λFu Bl hR=>?_;obtain ⟨Bh,Bc,rfl,e,Ac,Dq⟩:=hR;refine ⟨_,z,λa k=>?_⟩;have m:=m.nw e Dq Ac;refine ul 5 k z λk=>sB Qbf m k z (by exact fN) λBi Cz Gn a k m e Db=>?_;have Dv:=Qai Db ([]:List Int) z z z;refine ul 15 k z λk=>lG (λn a w=>∃ Aw Az As Ay Ad Af,K 132 [(0,v2),(2,.bool (Ai)),(8,Bk),(9,Bh),(10,Az),(11,I Ad),(12,I Af)] a∧St [] w0 w [(Be,Bg),(Bc,Bl),(As,Ay)]∧ow Ay As [Az] Aw∧Qch fu Am Ai Ax Bd n Aw Ad Af=some r) ?_ fu ?_
 · rintro Et a Fz ⟨Aw,Az,As,Ay,Ad,Af,k,m,Ah,h⟩;refine cg (λa w=>K 132 [(0,v2),(2,.bool (Ai)),(8,Bk),(9,Bh),(10,Az),(11,I Ad),(12,I Af)] a∧St [] w0 w [(Be,Bg),(Bc,Bl),(As,Ay)]∧Qh7 fu (Qch fu Am Ai Ax Bd Et) Am Ai Ax Bd Aw Ad Af=some r) ?_ ?_
   · rintro a Gk ⟨k,m,h⟩;refine gc 11 [lF (Enc.ow_rd Ac)] k z λk=>cJ h k z (λh=>?_) λh=>?_
     · refine oE h λBq Bn h=>gc 7 [iF (Enc.ow_rd Ab) Bn,eF (m.q Ab 0 z) Bn 0] k z λk=>sB Qbf m k z (by exact fC z fN) λHi Ft Ig a k m e Bz=>?_;have Do:=Qai Bz ([Bq]:List Int) z z z;refine oE h λBs Cd h=>Qcy Cd Qbf z m 3 Ah (News.rd (m.q Do 0 z)) z z k z z z z z z z λCj Bw Ds a k e m Dz=>ul 11 k z λk=>?_;exact ⟨_,_,_,_,_,_,k.p z,m.sl [1,2,3] z,Dz,h⟩
     refine gc 9 [lF (Enc.ow_rd Ab)] k z λk=>cJ h k z (λh=>?_) λh=>?_
     · refine oE h λBm Bp h=>gc 7 [iF (Enc.ow_rd Ac) Bp,eF (m.q Ac 1 z) Bp 0] k z λk=>sB Qbf m k z (by exact fC z fN) λGa Gr Gf a k m e Cc=>?_;have El:=Qai Cc ([Bm]:List Int) z z z;refine oE h λBy Cx h=>Qcy Cx Qbf z m 3 Ah (News.rd (m.q El 0 z)) z z k z z z z z z z λCs Fh Dy a k e m Cg=>ul 11 k z λk=>?_;exact ⟨_,_,_,_,_,_,k.p z,m.sl [1,2,3] z,Cg,h⟩
     refine uc 1 k z λk=>Qgu [] Qge m z λEp hMd=>?_;have m:=hMd;have s:=Ext.refl ([]:List Nat) Ep;refine o2 h λAl Ag Bf Ap h=>o2 h λAj Ae Ba Ao h=>dr [0,1,2,7,8,9,3,4,5,6,10,11,12,13,14,15] 16 [iF (Enc.ow_rd Ac) Ag,eF (hMd.q Ac 1 z) Ag 0,iF Aa Ap,eF (hMd.r Aa) Ap 0,iF (Enc.ow_rd Ab) Ae,eF (hMd.q Ab 0 z) Ae 0,iF Aa Ao,eF (hMd.r Aa) Ao 0] k z s λk=>bS h k 98 z (λ_ h k=>?_) λ_ h k=>?_
     · refine dM [16,17,18,19] 4 z k z s λa k=>bS h k 102 z (λ_ h k=>?_) λ_ h k=>?_
       · refine dM [20,21,22,23,24,25,26,27,28,29,30,31,32,33,34,35,36,37,38,39] 20 z k z s λa k=>dD ?_;refine (Qad ?_);refine oE h λHf Fs h=>gc 8 [iF (Enc.ow_rd Ac) Ag,eF (m.q Ac 1 z) Ag 0] k z λk=>sB Qbf m k z (by exact fC z fN) λHk Id Ha a k m e Fc=>?_;have Dj:=Qai Fc ([Al]:List Int) z z z;refine oE h λDg Ch h=>Qcy Ch Qbf z m 3 Ah (News.rd (m.q Dj 0 z)) z z k z z z z z z z λEf Ey Er a k e m Ew=>ul 11 k z λk=>?_;exact ⟨_,_,_,_,_,_,k.p z,m.sl [1,2,3] z,Ew,h⟩
       refine o2 h λIi Gq Gt Hm h=>o2 h λGi Gg Ho Fm h=>dr [20,21,22,27,28,29,23,24,25,26,30,31,32,33,34,35] 16 [iF (Enc.ow_rd Ac) Ag,eF (hMd.q Ac 1 z) Ag 0,iF Aa Ap,eF (hMd.r Aa) Ap 0,iF (Enc.ow_rd Ab) Ae,eF (hMd.q Ab 0 z) Ae 0,iF Aa Ao,eF (hMd.r Aa) Ao 0] k z s λk=>bS h k 118 z (λ_ h k=>?_) λ_ h k=>?_
       · refine dM [36,37,38,39] 4 z k z s λa k=>dD ?_;refine (Qad ?_);refine cJ h k z (λh=>?_) λh=>?_
         · refine oE h λHt Hn h=>gc 7 [iF (Enc.ow_rd Ac) Ag,eF (m.q Ac 1 z) Ag 0] k z λk=>sB Qbf m k z (by exact fC z fN) λGe Gh Ib a k m e Dx=>?_;have Fa:=Qai Dx ([Al]:List Int) z z z;refine oE h λDw De h=>Qcy De Qbf z m 3 Ah (News.rd (m.q Fa 0 z)) z z k z z z z z z z λEi Cu Dn a k e m Ee=>ul 11 k z λk=>?_;exact ⟨_,_,_,_,_,_,k.p z,m.sl [1,2,3] z,Ee,h⟩
         refine oE h λIe Hv h=>gc 7 [iF (Enc.ow_rd Ab) Ae,eF (m.q Ab 0 z) Ae 0] k z λk=>sB Qbf m k z (by exact fC z fN) λHb Gj Gd a k m e Eu=>?_;have Ec:=Qai Eu ([Aj]:List Int) z z z;refine oE h λCy Eh h=>Qcy Eh Qbf z m 3 Ah (News.rd (m.q Ec 0 z)) z z k z z z z z z z λDm Cr Ev a k e m Fg=>ul 11 k z λk=>?_;exact ⟨_,_,_,_,_,_,k.p z,m.sl [1,2,3] z,Fg,h⟩
       refine dM [36,37,38,39] 4 z k z s λa k=>dD ?_;refine (Qad ?_);refine oE h λIa Gl h=>gc 8 [iF (Enc.ow_rd Ab) Ae,eF (m.q Ab 0 z) Ae 0] k z λk=>sB Qbf m k z (by exact fC z fN) λHe Ih Hj a k m e Cp=>?_;have Cw:=Qai Cp ([Aj]:List Int) z z z;refine oE h λDp Co h=>Qcy Co Qbf z m 3 Ah (News.rd (m.q Cw 0 z)) z z k z z z z z z z λDk Ca Cq a k e m Dc=>ul 11 k z λk=>?_;exact ⟨_,_,_,_,_,_,k.p z,m.sl [1,2,3] z,Dc,h⟩
     refine o2 h λFy Fj Fn Hw h=>o2 h λFp Fk Gw Gz h=>dr [16,17,18,19,20,21,22,27,28,29,23,24,25,26,30,31,32,33,34,35] 20 [iF (Enc.ow_rd Ac) Ag,eF (hMd.q Ac 1 z) Ag 0,iF Aa Ap,eF (hMd.r Aa) Ap 0,iF (Enc.ow_rd Ab) Ae,eF (hMd.q Ab 0 z) Ae 0,iF Aa Ao,eF (hMd.r Aa) Ao 0] k z s λk=>bS h k 118 z (λ_ h k=>?_) λ_ h k=>?_
     · refine dM [36,37,38,39] 4 z k z s λa k=>dD ?_;refine (Qad ?_);refine cJ h k z (λh=>?_) λh=>?_
       · refine oE h λFq Fl h=>gc 7 [iF (Enc.ow_rd Ac) Ag,eF (m.q Ac 1 z) Ag 0] k z λk=>sB Qbf m k z (by exact fC z fN) λGc Gx Ic a k m e Ex=>?_;have Dd:=Qai Ex ([Al]:List Int) z z z;refine oE h λFi Bv h=>Qcy Bv Qbf z m 3 Ah (News.rd (m.q Dd 0 z)) z z k z z z z z z z λCi Cn Em a k e m Bx=>ul 11 k z λk=>?_;exact ⟨_,_,_,_,_,_,k.p z,m.sl [1,2,3] z,Bx,h⟩
       refine oE h λHy Hh h=>gc 7 [iF (Enc.ow_rd Ab) Ae,eF (m.q Ab 0 z) Ae 0] k z λk=>sB Qbf m k z (by exact fC z fN) λHz Hu Hd a k m e Df=>?_;have En:=Qai Df ([Aj]:List Int) z z z;refine oE h λEz Eb h=>Qcy Eb Qbf z m 3 Ah (News.rd (m.q En 0 z)) z z k z z z z z z z λEo Fd Da a k e m Di=>ul 11 k z λk=>?_;exact ⟨_,_,_,_,_,_,k.p z,m.sl [1,2,3] z,Di,h⟩
     refine dM [36,37,38,39] 4 z k z s λa k=>dD ?_;refine (Qad ?_);refine oE h λGm Hq h=>gc 8 [iF (Enc.ow_rd Ab) Ae,eF (m.q Ab 0 z) Ae 0] k z λk=>sB Qbf m k z (by exact fC z fN) λHr Hc Hp a k m e Cm=>?_;have Br:=Qai Cm ([Aj]:List Int) z z z;refine oE h λBt Fe h=>Qcy Fe Qbf z m 3 Ah (News.rd (m.q Br 0 z)) z z k z z z z z z z λEk Fb Es a k e m Dh=>ul 11 k z λk=>?_;exact ⟨_,_,_,_,_,_,k.p z,m.sl [1,2,3] z,Dh,h⟩
   refine gc 7 [lF (Enc.ow_rd Ab)] k z λk=>bS h k 39 z (λ_ h k=>?_) λ_ h k=>?_
   · refine ul 10 k z λk=>?_;exact ⟨k.p z,m.sl [0,1,2] z,h⟩
   refine gl 7 [lF (Enc.ow_rd Ac)] k z λk=>cJ h k z (λh=>?_) λh=>?_
   · refine uc 2 k z λk=>?_;exact ⟨k.p z,m.sl [0,1,2] z,h⟩
   refine uc 12 k z λk=>?_;cases h;exact Qbj k z (RV.tmp k z) ⟨_,As,z,m.ext,(m.v Ah 2 z),(m.fresh 2 z)⟩
 exact ⟨_,_,_,_,_,_,k.p z,m.sl [2,1,0] z,Dv,h⟩
theorem Qvm (fu:Nat) {w0:World} (Ac:List Int) (Aa:List Int) (Ab:Bool) {v2:Value} {F3:List Nat} (Ae:rd w0 F3 [v2] Ac) {v6:Value} {F7:List Nat} (Ad:rd w0 F7 [v6] Aa) {r:(List Int)}
    (h:Qlf fu Ac Aa Ab=some r):Calls Tryz.prog 201 #[v2,v6,.bool (Ab)] w0 λe w=>∃ (v0:Value) (G0:List Nat),e=.returned (v0)∧Ext [] w0 w∧ow w G0 [v0] r∧(∀ b∈G0,w0.heap.size≤b) :=
  Qx2 fu fu Ac Aa Ab Ae Ad h
theorem Qv4 (fu) {w0} (Ae) {v2 F3} (Ab:rd w0 F3 [v2] Ae) {r} (h:Qow fu Ae=some r):cL 125 [v2] w0 r:=by
 refine eg func125 z ntmps125 z λk m=>oE h λx5 Aj h=>gc 10 [lF Ab] k z λk=>sL k m call202 z (Qus fu _  Aj) λw9 Ak Ag Ac k m=>oE h λAp Ai h=>sC k call201 z (Qvm fu _ _ _ (m.r Ab) (m.q Ac 0 z) Ai) λAm Ao hR=>?_;obtain ⟨Al,Ad,rfl,e,Aa,Ah⟩:=hR;refine ⟨_,z,λa k=>?_⟩;have m:=m.nw e Ah Aa;refine ul 4 k z λk=>?_;cases h;exact Qbj k z (RV.tmp k z) ⟨_,Ad,z,m.ext,(m.v Aa 0 z),(m.fresh 0 z)⟩
theorem Qvg (fu) {w0} (Ac h2 d3) {r} (h:Qlb fu Ac h2 d3=some r):cL 197 [I Ac,I h2,I d3] w0 r:=by
 refine eg func197 z ntmps197 z λk m=>uc 10 k z λk=>sB Qbf m k z (by exact fC z (fC z (fC z fN))) λg4 w5 e7 a k m e Aq=>?_;have Ab:=Qai Aq ([Ac,h2,d3]:List Int) z z z;refine oE h λx9 Ar h=>ul 6 k z λk=>sL k m call125 z (Qv4 fu _ (m.q Ab 0 z) Ar) λAz Bc As Aa k m=>ul 4 k z λk=>Qgu [] Qge m z λAp hMd=>?_;have m:=hMd;have s:=Ext.refl ([]:List Nat) Ap;refine o2 h λBe Af Aj Ad h=>o2 h λBb Ak Ah Ai h=>o2 h λBd Ag Ae Al h=>dr [0,1,6,7,12,13,2,3,4,5,8,9,10,11,14,15,16,17] 18 [iF (Enc.ow_rd Aa) Af,eF (hMd.q Aa 0 z) Af 0,iF (Enc.ow_rd Ab) Ad,eF (hMd.q Ab 1 z) Ad 0,iF (Enc.ow_rd Aa) Ak,eF (hMd.q Aa 0 z) Ak 0,iF (Enc.ow_rd Ab) Ai,eF (hMd.q Ab 1 z) Ai 0,iF (Enc.ow_rd Aa) Ag,eF (hMd.q Aa 0 z) Ag 0,iF (Enc.ow_rd Ab) Al,eF (hMd.q Ab 1 z) Al 0] k z s λk=>dG 18 z (Qbw Qbf m k z z z z z z z (by decide) z (by exact fC z (fC z (fC z fN))) λAu Ay Ax a k m e Am At=>?_);have Aw:=lo1 (Nat.le_trans s.size At);have Av:=Qai Am ([Aj,Ah,Ae]:List Int) z z z;refine ns s e λs=>dM [19] 1 z k z s λa k=>dD ?_;refine (Qad ?_);refine wp_ret ?_;cases h;exact Qbj k z (RV.tmp k z) ⟨_,[Au],z,m.ext,(m.v Av 0 z),(m.fresh 0 z)⟩
theorem Qvo (fu) {w0} (x1 t2) {r} (h:Qpn fu x1 t2=some r):cS 121 [.agg (Flat.e (x1)).toArray,.agg (Flat.e (t2)).toArray] w0 (.bool (r)):=by
 refine eg func121 z ntmps121 z λk m=>uc 2 k z λk=>Qbd m k z z z z z z λb3 w5 a k m e Af=>Qbd m k z z z z z z λb6 w9 a k m e Ag=>oE h λBh Aw h=>gl 11 [bF m 1 Af z,bF m 1 Af z,bF m 1 Af z] k z λk=>sL k m call197 z (Qvg fu _ _ _  Aw) λBc Bb Aq Aa k m=>oE h λBf Au h=>gl 11 [bF m 1 Ag z,bF m 1 Ag z,bF m 1 Ag z] k z λk=>sL k m call197 z (Qvg fu _ _ _  Au) λBd Be Az Ab k m=>ul 4 k z λk=>Qgu [] Qge m z λAp hMd=>?_;have m:=hMd;have s:=Ext.refl ([]:List Nat) Ap;refine o2 h λAt Al Ax Ak h=>dr [0,3,1,2,4,5,6,7] 8 [iF (Enc.ow_rd Aa) Al,eF (hMd.q Aa 1 z) Al 0,iF (Enc.ow_rd Ab) Ak,eF (hMd.q Ab 0 z) Ak 0] k z s λk=>bS h k 28 z (λ_ h k=>?_) λ_ h k=>?_
 · refine o2 h λAr Ah Av Aj h=>dr [8,11,9,10,12,13,14,15,16] 9 [iF (Enc.ow_rd Aa) Ah,eF (hMd.q Aa 1 z) Ah 0,iF (Enc.ow_rd Ab) Aj,eF (hMd.q Ab 0 z) Aj 0] k z s λk=>bS h k 37 z (λ_ h k=>?_) λ_ h k=>?_
   · refine o2 h λAy Ai Ba Am h=>dr [17,20,18,19,21,22,23,24,25] 9 [iF (Enc.ow_rd Aa) Ai,eF (hMd.q Aa 1 z) Ai 0,iF (Enc.ow_rd Ab) Am,eF (hMd.q Ab 0 z) Am 0] k z s λk=>bS h k 46 z (λ_ h k=>?_) λ_ h k=>?_
     · refine dr [26,27,28,29,30,31,32] 7 [bF hMd 3 Af z,bF hMd 2 Ag z] k z s λk=>dD ?_;refine (Qad ?_);refine wp_ret (fS h k m z z)
     refine dM [26,27,28,29,30,31,32] 7 z k z s λa k=>dD ?_;refine (Qad ?_);refine wp_ret (fS h k m z z)
   refine dM [17,18,19,20,21,22,23,24,25,26,27,28,29,30,31,32] 16 z k z s λa k=>dD ?_;refine (Qad ?_);refine wp_ret (fS h k m z z)
 refine dM [8,9,10,11,12,13,14,15,16,17,18,19,20,21,22,23,24,25,26,27,28,29,30,31,32] 25 z k z s λa k=>dD ?_;refine (Qad ?_);refine wp_ret (fS h k m z z)
theorem Qgo (fu) {w0} (r1) {Aq F3} (Av:rd w0 F3 Aq r1) {r} (h:Qd6 fu r1=some r):cS 62 [.agg Aq.toArray] w0 (I r):=by
 refine eg func62 z ntmps62 z λk m=>?_;obtain ⟨v5,F6,v7,F8,v9,By,rfl,rfl,Af,Ad,Ab⟩:=Av;refine uc 2 k z λk=>Qbd m k z z z z z z λAg Ao a k m e Aa=>oE h λBs Bc h=>gl 7 [bA m 0 Aa z] k z λk=>cC k m call117 z (Qz1 fu _ (Qac (m.r Af) (m.r Ad) (m.r Ab)) Bc) λCa e a k m=>ul 3 k z λk=>cJ h k z (λh=>?_) λh=>?_
 · refine uc 7 k z λk=>fS h k m z z
 refine oE h λCb Bg h=>gc 6 [bA m 0 Aa z] k z λk=>cC k m call118 z (Q1f fu _ (Qac (m.r Af) (m.r Ad) (m.r Ab)) Bg) λBv e a k m=>ul 3 k z λk=>cJ h k z (λh=>?_) λh=>?_
 · refine uc 7 k z λk=>fS h k m z z
 refine oE h λBw Bd h=>gc 9 [bF m 0 Aa z,bF m 0 Aa z] k z λk=>cC k m call119 z (Q0v fu _ _ (m.r Af) Bd) λBx e a k m=>ul 3 k z λk=>cJ h k z (λh=>?_) λh=>?_
 · refine uc 7 k z λk=>fS h k m z z
 refine oE h λAe Ax h=>gc 5 [bA m 0 Aa z] k z λk=>cC k m call120 z (Qjo fu _ (Qac (m.r Af) (m.r Ad) (m.r Ab)) Ax) λBq e a k m=>pN 3 k z λa k=>Qaj m k zeroValue61 z z z z z λAs Bn a k m e Ay=>sT sizeOf61 m 0 Ay 0 k z z λBe a k e m At=>ul 10 k z λk=>lG (λn a w=>∃ Am,K 85 [(1,pt Ag),(3,pt As),(5,I Am)] a∧St [] w0 w [([Ag],Ao),([As],Be)]∧Qg6 fu r1 Ae n Am=some r) ?_ fu ?_
 · rintro Br a Bt ⟨Am,k,m,h⟩;refine gc 10 [bF m 0 Aa z,lF Ab] k z λk=>cJ h k z (λh=>?_) λh=>?_
   · refine uc 5 k z λk=>Qgu [] Qge m z λBl hMd=>?_;have m:=hMd;have s:=Ext.refl ([]:List Nat) Bl;refine oE h λBj Ap h=>dr [2,0,1,3,4,5] 6 [bF hMd 0 Aa z,iF Ab Ap,eA (hMd.r Ab) Ap,bA hMd 1 At z] k z s λk=>dG 6 z (oE h λBu Bi h=>?_);refine cC k m call121 z (Qvo fu (Bj:Item) (Ae.1:Typ)  Bi) λBz e a k m=>ns s e λs=>dM [7] 1 z k z s λa k=>dD ((Qad ?_));refine cJ h k z (λh=>?_) λh=>?_
     · refine uc 11 k z λk=>fS h k m z z
     refine uc 9 k z λk=>?_;exact ⟨_,k.p z,m.sl [0,1] z,h⟩
   refine uc 12 k z λk=>lG (λn a w=>∃ Ah,K 85 [(1,pt Ag),(6,I Ah)] a∧St [] w0 w [([Ag],Ao)]∧Qfr fu r1 n Ah=some r) ?_ fu ?_
   · rintro Bh a Cc ⟨Ah,k,m,h⟩;refine gc 10 [bF m 0 Aa z,lF Ad] k z λk=>cJ h k z (λh=>?_) λh=>?_
     · refine uc 2 k z λk=>cg (λa w=>K 85 [(1,pt Ag),(6,I Ah)] a∧St [] w0 w [([Ag],Ao)]∧Qsu fu (Qfr fu r1 Bh) Ah=some r) ?_ ?_
       · rintro a Cd ⟨k,m,h⟩;refine uc 6 k z λk=>?_;exact ⟨_,k.p z,m.sl [0] z,h⟩
       refine oE h λAc Ar h=>gc 8 [bF m 0 Aa z,iF Ad Ar,eA (m.r Ad) Ar] k z λk=>Qaj m k zeroValue61 z z z z z λCe Bp a k m e Au=>sT sizeOf61 m 0 Au 0 k z z λBo a k e m Al=>gl 11 [bF m 0 Al z,bF m 1 Aa z] k z λk=>bS h k 58 z (λ_ h k=>?_) λ_ h k=>?_
       · refine ul 40 k z λk=>fS h k m z z
       refine gl 8 [bF m 0 Al z,bF m 1 Aa z] k z λk=>bS h k 66 z (λ_ h k=>?_) λ_ h k=>?_
       · refine ul 32 k z λk=>fS h k m z z
       refine gl 8 [bF m 0 Al z,bF m 1 Aa z] k z λk=>bS h k 74 z (λ_ h k=>?_) λ_ h k=>?_
       · refine ul 24 k z λk=>fS h k m z z
       refine gl 12 [bF m 0 Al z,bF m 0 Al z,bF m 1 Aa z] k z λk=>cJ h k z (λh=>?_) λh=>?_
       · refine uc 11 k z λk=>fS h k m z z
       refine uc 3 k z λk=>?_;exact ⟨k.p z,m.sl [1] z,h⟩
     refine uc 11 k z λk=>fS h k m z z
   exact ⟨_,k.p z,m.sl [0] z,h⟩
 exact ⟨_,k.p z,m.sl [1,0] z,h⟩
theorem Q12 (fu) {w0} (c1) {v4 F5 b2} (Bj:bx w0 b2 [v4,I c1.fi,I c1.fh] 106) (Bd:rd w0 F5 [v4] c1.fb) (Bg:∀ b∈F5,b∉[b2]) {r} (h:Qrw fu c1=some r):Calls Tryz.prog 104 #[pt b2] w0 λe w=>∃ (Bi:List Value) (G0:List Nat),e=.returned (.agg Bi.toArray)∧Ext [b2] w0 w∧ow w G0 Bi r.1∧(∀ b∈G0,w0.heap.size≤b)∧bx w b2 [v4,I r.2.fi,I r.2.fh] 106:=by
 refine eg (vs:=[_]) func104 z ntmps104 z λk _=>?_;have m:=St.start1 w0 Bj.lt1 (by simp);refine uc 2 k z λk=>Qaj m k zeroValue55 z z z z z λb8 Bm a k m e Bk=>oE h λAa Cd h=>ul 5 k z λk=>sC k call176 z (Qvi fu (c1:Cur) (m.y Bj 1 z) (m.r1 Bd Bg) (m.disX 1 z (Enc.rd_lt Bd) Bg) Cd) λDb Ae hR=>?_;obtain ⟨Df,Cp,rfl,e,Bc,Bf,Bo⟩:=hR;refine ⟨_,z,λa k=>?_⟩;have m:=m.mut 1 z e ([b2]++Cp) (λb hb=>(List.mem_append.1 hb).elim (λhb=>⟨.inl hb,e.lt1 (m.ltF 1 z) b hb⟩) (λhb=>⟨.inr (Bf b hb),(Enc.rd_lt (Enc.ow_rd Bc)) b hb⟩)) (Q6c (m.ndF 1 z) (Enc.ow_nd Bc) (m.ltF 1 z) Bf);have m:=m.toFront 1 z;have m:=m.split2;have m:=m.toFront 1 z;obtain ⟨Af,Ba,Ah,Av,Am,Be,rfl,rfl,Ai,Ag,Ac,_⟩:=Bc;have m:=m.split2;have m:=m.split2at1;refine Qaj m k zeroValue55 z z z z z λAx Cz a k m e Cg=>sT sizeOf55 m 0 Cg 0 k z (Qa9 z (Qa9 z (Qa9 z (Qa9 z (Qa9 z (Qa9 z (Qa9 (Qed (Enc.ow_rd Ai)) (Qa9 (Qed (Enc.ow_rd Ag)) (Qa9 z (Qa9 (Qed (Enc.ow_rd Ac)) Qqm)))))))))) λDm a k e m Bb=>oE h λDj Cj h=>gl 6 [bA m 0 Bb z] k z λk=>cC k m call62 z (Qgo fu _ (Qac (m.q Ai 1 z) (m.q Ag 2 z) (m.q Ac 3 z)) Cj) λCy e a k m=>ul 3 k z λk=>cJ h k z (λh=>?_) λh=>?_
 · refine uc 2 k z λk=>sv k z (Qag Jla k (cs:=#[I 30,I 25,I 24,I 400]) (ps:=[(0,.const (I 30)),(1,.const (I 25)),(2,.const (I 24)),(3,.const (I 400))]) z z (by kernel_rfl)) λa k=>sv k z (Qwc Q6w k z z) λa k=>sT sizeOf50 m 0 Bb 1 k z z λBl a k e m Ao=>oE h λAb Bx h=>gl 5 [bA m 0 Ao z] k z λk=>cC k m call120 z (Qjo fu _ (show rd _ _ [I Aa.1.f0,I 30,I 25,I 24,I 400,I Aa.1.fG,Af,Ah,I Aa.1.fT,Am] ((⟨Aa.1.f0,(⟨30,25,24,400⟩:Pallet),Aa.1.fG,Aa.1.fR,Aa.1.fU,Aa.1.fT,Aa.1.fV⟩:Request):Request) from ⟨_,_,_,_,_,_,z,z,(m.q Ai 1 z),(m.q Ag 2 z),(m.q Ac 3 z)⟩) Bx) λCw e a k m=>pN 3 k z λa k=>Qaj m k zeroValue61 z z z z z λAs Cv a k m e Cq=>sT sizeOf61 m 0 Cq 0 k z z λBh a k e m Bw=>ul 5 k z λk=>sB Q3y m k z (by exact fN) λBn Ci Da a k m e Bq=>?_;have By:=Qai Bq ([]:List Item) z z z;refine ul 10 k z λk=>lG (λn a w=>∃ At Ak Ap Aq Aj,K 46 [(2,pt b8),(3,pt Ax),(4,pt As),(6,Ak),(7,I Aj)] a∧St [b2] w0 w [([b8],Bm),([Ax],Bl),([As],Bh),([b2],Ae),(Ba,Ae),(Av,Ae),(Be,Ae),(Ap,Aq)]∧ow Aq Ap [Ak] At∧Qga fu c1 Aa Ab n At Aj=some r) ?_ fu ?_
   · rintro Bt a Di ⟨At,Ak,Ap,Aq,Aj,k,m,Al,h⟩;refine gc 10 [bF m 1 Ao z,lF (Enc.ow_rd Ac)] k z λk=>cJ h k z (λh=>?_) λh=>?_
     · refine uc 2 k z λk=>cg (λa w=>∃ Au Ar Aw Az,K 46 [(2,pt b8),(3,pt Ax),(4,pt As),(6,Ar),(7,I Aj)] a∧St [b2] w0 w [([b8],Bm),([Ax],Bl),([As],Bh),([b2],Ae),(Ba,Ae),(Av,Ae),(Be,Ae),(Aw,Az)]∧ow Az Aw [Ar] Au∧Qlu fu (Qga fu c1 Aa Ab Bt) Aj Au=some r) ?_ ?_
       · rintro a De ⟨Au,Ar,Aw,Az,k,m,Bz,h⟩;refine uc 6 k z λk=>?_;exact ⟨_,_,_,_,_,k.p z,m.sl [0,1,2,3,4,5,6,7] z,Bz,h⟩
       refine uc 2 k z λk=>Qgu [] Qge m z λBu hMd=>?_;have m:=hMd;have s:=Ext.refl ([]:List Nat) Bu;refine oE h λAd Ay h=>dr [2,0,1,3,4,5] 6 [bF hMd 1 Ao z,iF (Enc.ow_rd Ac) Ay,eA (hMd.q Ac 6 z) Ay,bA hMd 2 Bw z] k z s λk=>dG 6 z (oE h λDd Cl h=>?_);refine cC k m call121 z (Qvo fu (Ad:Item) (Ab.1:Typ)  Cl) λDl e a k m=>ns s e λs=>dD ((Qad ?_));refine cJ h k z (λh=>?_) λh=>?_
       · refine oE h λDg Cx h=>gc 7 [bF m 1 Ao z,iF (Enc.ow_rd Ac) Ay,eA (m.q Ac 6 z) Ay] k z λk=>sB Q3y m k z (by exact fC z fN) λCu Dc Ct a k m e Ck=>?_;have Bs:=Qai Ck ([Ad]:List Item) z z z;refine oE h λCo Ca h=>Qcy Ca Q3y z m 8 Al (News.rd (m.q Bs 0 z)) z z k z z z z z z z λCr Ce Bv a k e m Cb=>ul 4 k z λk=>?_;exact ⟨_,_,_,_,k.p z,m.sl [1,2,3,4,5,6,7,8] z,Cb,h⟩
       refine uc 3 k z λk=>?_;exact ⟨_,_,_,_,k.p z,m.sl [0,1,2,3,4,5,6,7] z,Al,h⟩
     refine uc 8 k z λk=>Qfi (cs':=[I Aa.1.f0,I 30,I 25,I 24,I 400,I Aa.1.fG,Af,Ah,I Aa.1.fT,Ak]) sizeOf53 m 1 Ao 9 k (Qid (Enc.ow_rd Al)) (Qed (Enc.ow_rd Al)) z z z z z z z z z λCs a k e m Ch=>gl 5 [bA m 1 Ch z] k z λk=>sT sizeOf55 m 0 Bk 0 k z (Qa9 z (Qa9 z (Qa9 z (Qa9 z (Qa9 z (Qa9 z (Qa9 (Qed (Enc.ow_rd Ai)) (Qa9 (Qed (Enc.ow_rd Ag)) (Qa9 z (Qa9 (Qed (Enc.ow_rd Al)) Qqm)))))))))) λDh a k e m Cc=>ul 3 k z λk=>?_;cases h;exact Qbj k z (RV.cA k z Qyf (Cc.at (m.a 0 z) 0 10 z z z) z) ⟨_,_,z,m.ext,⟨_,Ba,_,Av,_,Ap,z,z,(m.v Ai 4 z),(m.v Ag 5 z),(m.v Al 7 z),by simpa [fps] using (m.sl [4,5,7] z).nd⟩,(Qa0 (m.freshX 4 3 z z z) (Qa0 (m.freshX 5 3 z z z) (m.freshX 7 3 z z z))),(m.y Bo 3 z)⟩
   exact ⟨_,_,_,_,_,k.p z,m.sl [7,2,1,6,3,4,5,0] z,By,h⟩
 refine gc 5 [bA m 0 Bb z] k z λk=>sT sizeOf55 m 5 Bk 0 k z (Qa9 z (Qa9 z (Qa9 z (Qa9 z (Qa9 z (Qa9 z (Qa9 (Qed (Enc.ow_rd Ai)) (Qa9 (Qed (Enc.ow_rd Ag)) (Qa9 z (Qa9 (Qed (Enc.ow_rd Ac)) Qqm)))))))))) λDk a k e m Cn=>ul 3 k z λk=>?_;cases h;exact Qbj k z (RV.cA k z Qyf (Cn.at (m.a 5 z) 0 10 z z z) z) ⟨_,_,z,m.ext,⟨_,Ba,_,Av,_,Be,z,z,(m.v Ai 1 z),(m.v Ag 2 z),(m.v Ac 3 z),by simpa [fps] using (m.sl [1,2,3] z).nd⟩,(Qa0 (m.freshX 1 4 z z z) (Qa0 (m.freshX 2 4 z z z) (m.freshX 3 4 z z z))),(m.y Bo 4 z)⟩
theorem Qyz (fu) {w0} (Ac) {v2 F3} (Aa:rd w0 F3 [v2] Ac) {r} (h:Qpg fu Ac=some r):cS 71 [v2] w0 (.string (r)):=by
 refine eg func71 z ntmps71 z λk m=>oE h λx5 Al h=>uc 8 k z λk=>sC k call42 z (Q4f fu _ (m.r Aa) Al) λe7 w9 hR=>?_;obtain ⟨Af,rfl,e,Ah,Aq⟩:=hR;refine ⟨_,z,λa k=>?_⟩;have m:=m.new e [Af] (λy hy=>⟨lo1 Aq y hy,Ah.lt1 y hy⟩) (by simp);refine oE h λAd Am h=>ul 7 k z λk=>sU k m 0 call103 z (Qt8 fu (⟨Ac,x5.fi,x5.fh⟩:Cur) _ (m.y Ah 0 z) (m.r Aa) (m.dis0 0 z (Enc.rd_lt Aa) (by simp)) Am) λBl Ai k m=>ul 2 k z λk=>cJ h k z (λh=>?_) λh=>?_
 · refine oE h λBg Ar h=>uc 3 k z λk=>sU k m 0 call138 z (Q3m fu (⟨Ac,Ad.2.fi,Ad.2.fh⟩:Cur) (m.y Ai 0 z) (m.r Aa) (m.dis0 0 z (Enc.rd_lt Aa) (by simp)) Ar) λBf Bj k m=>ul 5 k z λk=>fS h k m z z
 refine oE h λAb Ap h=>uc 5 k z λk=>sC k call104 z (Q12 fu (⟨Ac,Ad.2.fi,Ad.2.fh⟩:Cur) (m.y Ai 0 z) (m.r Aa) (m.dis0 0 z (Enc.rd_lt Aa) (by simp)) Ap) λBi Be hR=>?_;obtain ⟨Bc,Ax,rfl,e,Ae,Ag,Ay⟩:=hR;refine ⟨_,z,λa k=>?_⟩;have m:=m.mut 0 z e ([Af]++Ax) (λb hb=>(List.mem_append.1 hb).elim (λhb=>⟨.inl hb,e.lt1 (m.ltF 0 z) b hb⟩) (λhb=>⟨.inr (Ag b hb),(Enc.rd_lt (Enc.ow_rd Ae)) b hb⟩)) (Q6c (m.ndF 0 z) (Enc.ow_nd Ae) (m.ltF 0 z) Ag);have m:=m.split2;have m:=m.toFront 1 z;obtain ⟨Aw,Bd,At,Bb,Aj,Ba,rfl,rfl,Au,Av,As,_⟩:=Ae;have m:=m.split2;have m:=m.split2at1;refine oE h λBk Ak h=>cC k m call139 z (Qum fu _ (Qac (m.q Au 0 z) (m.q Av 1 z) (m.q As 2 z)) Ak) λBm e a k m=>ul 4 k z λk=>fS h k m z z
theorem Qvw (fu) {w0} (Ab) {v2 F3} (Aa:rd w0 F3 [v2] Ab) {r} (h:Qml fu Ab=some r):cS 31 [v2] w0 (.string (r)):=by
 refine eg func31 z ntmps31 z λk m=>oE h λx5 Ac h=>uc 8 k z λk=>cC k m call71 z (Qyz fu _ (m.r Aa) Ac) λw9 e a k m=>ul 4 k z λk=>fS h k m z z
theorem Qxo (fu) {w0} (Ab Ac) {r} (h:Qq1 fu Ab Ac=some r):cL 43 [.string (Ab),.int .u8 (Ac)] w0 r:=by
 refine eg func43 z ntmps43 z λk m=>uc 7 k z λk=>sB Qyh m k z (by exact fN) λg3 w4 e6 a k m e As=>?_;have Au:=Qai As ([]:List ByteArray) z z z;refine ul 15 k z λk=>lG (λn a w=>∃ Al Ak Ad Ah Ao Aa,K 36 [(0,.string (Ab)),(1,.int .u8 (Ac)),(5,Ak),(6,I Ao),(7,I Aa)] a∧St [] w0 w [(Ad,Ah)]∧ow Ah Ad [Ak] Al∧Qfo fu Ab Ac n Al Ao Aa=some r) ?_ fu ?_
 · rintro Bp a Bv ⟨Al,Ak,Ad,Ah,Ao,Aa,k,m,Am,h⟩;refine uc 5 k z λk=>sv k z (Q1l k underlying9 z z) λa k=>ul 3 k z λk=>cJ h k z (λh=>?_) λh=>?_
   · refine uc 2 k z λk=>cg (λa w=>∃ Ai Af Ap Ag Aj,K 36 [(0,.string (Ab)),(1,.int .u8 (Ac)),(5,Af),(6,I Aj),(7,I Aa)] a∧St [] w0 w [(Ap,Ag)]∧ow Ag Ap [Af] Ai∧Qic fu (Qfo fu Ab Ac Bp) Aa Ai Aj=some r) ?_ ?_
     · rintro a By ⟨Ai,Af,Ap,Ag,Aj,k,m,Bg,h⟩;refine uc 6 k z λk=>?_;exact ⟨_,_,_,_,_,_,k.p z,m.sl [0] z,Bg,h⟩
     refine uc 5 k z λk=>sv k z (Q1l k underlying9 z z) λa k=>pN 2 k z λa k=>bS h k 19 z (λ_ h k=>?_) λ_ h k=>?_
     · refine oE h λAq Bj h=>ul 15 k z λk=>sv k z (Jgt Bj k underlying9 z z z z) λa k=>sB Qyh m k z (by exact fC z fN) λBx Bz Bw a k m e At=>?_;have Az:=Qai At ([Aq]:List ByteArray) z z z;refine oE h λBn Bb h=>Qcy Bb Qyh z m 1 Am (News.rd (m.q Az 0 z)) z z k z z z z z z z λBk Bh Aw a k e m Ba=>ul 10 k z λk=>?_;exact ⟨_,_,_,_,_,k.p z,m.sl [1] z,Ba,h⟩
     refine pN 2 k z λa k=>oE h λBt Av h=>sv k z (Q8v Av k underlying9 z z z) λa k=>ul 5 k z λk=>cJ h k z (λh=>?_) λh=>?_
     · refine oE h λAr Be h=>uc 6 k z λk=>sv k z (Jgt Be k underlying9 z z z z) λa k=>sB Qyh m k z (by exact fC z fN) λBs Bu Br a k m e Bm=>?_;have Bd:=Qai Bm ([Ar]:List ByteArray) z z z;refine oE h λAx Bf h=>Qcy Bf Qyh z m 1 Am (News.rd (m.q Bd 0 z)) z z k z z z z z z z λBo Bi Bc a k e m Ay=>ul 10 k z λk=>?_;exact ⟨_,_,_,_,_,k.p z,m.sl [1] z,Ay,h⟩
     refine uc 3 k z λk=>?_;exact ⟨_,_,_,_,_,k.p z,m.sl [0] z,Am,h⟩
   refine uc 12 k z λk=>?_;cases h;exact Qbj k z (RV.tmp k z) ⟨_,Ad,z,m.ext,(m.v Am 0 z),(m.fresh 0 z)⟩
 exact ⟨_,_,_,_,_,_,k.p z,m.sl [0] z,Au,h⟩
theorem Q3h (fu) {w0} (Aa) {r} (h:Qod fu Aa=some r):cS 46 [.string (Aa)] w0 (.tuple #[I r.1,.bool (r.2)]):=by
 refine eg func46 z ntmps46 z λk m=>uc 6 k z λk=>cg (λa w=>K 43 [(0,.string (Aa))] a∧St [] w0 w []∧Qrm fu Aa=some r) ?_ ?_
 · rintro a w4 ⟨k,m,h⟩;refine uc 12 k z λk=>lG (λn a w=>∃ Ac Ab,K 43 [(0,.string (Aa)),(4,I Ac),(5,I Ab)] a∧St [] w0 w []∧Qen fu Aa n Ac Ab=some r) ?_ fu ?_
   · rintro Ag a As ⟨Ac,Ab,k,m,h⟩;refine uc 5 k z λk=>sv k z (Q1l k underlying9 z z) λa k=>ul 3 k z λk=>cJ h k z (λh=>?_) λh=>?_
     · refine uc 2 k z λk=>cg (λa w=>∃ Af,K 43 [(0,.string (Aa)),(4,I Af),(5,I Ab)] a∧St [] w0 w []∧Qrq fu (Qen fu Aa Ag) Ab Af=some r) ?_ ?_
       · rintro a At ⟨Af,k,m,h⟩;refine uc 6 k z λk=>?_;exact ⟨_,_,k.p z,m.sl [] z,h⟩
       refine uc 1 k z λk=>cg (λa w=>K 43 [(0,.string (Aa)),(4,I Ac),(5,I Ab)] a∧St [] w0 w []∧Qrd fu (Qen fu Aa Ag) Aa Ac Ab=some r) ?_ ?_
       · rintro a Au ⟨k,m,h⟩;refine oE h λAo Ar h=>uc 5 k z λk=>sv k z (Q8v Ar k underlying9 z z z) λa k=>sv k z (Jgy k underlying5 underlying3 z z) λa k=>ul 6 k z λk=>?_;exact ⟨_,k.p z,m.sl [] z,h⟩
       refine oE h λAl Ap h=>uc 4 k z λk=>sv k z (Q8v Ap k underlying9 z z z) λa k=>pN 2 k z λa k=>bS h k 24 z (λ_ h k=>?_) λ_ h k=>?_
       · refine ul 21 k z λk=>?_;cases h;exact Qdy k z (RV.tmp k z) (RV.tmp k z) ⟨z,m.ext⟩
       refine pN 2 k z λa k=>oE h λAx Aj h=>sv k z (Q8v Aj k underlying9 z z z) λa k=>ul 4 k z λk=>cJ h k z (λh=>?_) λh=>?_
       · refine uc 13 k z λk=>?_;cases h;exact Qdy k z (RV.tmp k z) (RV.tmp k z) ⟨z,m.ext⟩
       refine uc 2 k z λk=>?_;exact ⟨k.p z,m.sl [] z,h⟩
     refine oE h λAw Ah h=>uc 9 k z λk=>cC k m call78 z (Qt7 fu _  Ah) λAv e a k m=>ul 4 k z λk=>cJ h k z (λh=>?_) λh=>?_
     · refine uc 8 k z λk=>?_;cases h;exact Qdy k z (RV.tmp k z) (RV.tmp k z) ⟨z,m.ext⟩
     refine uc 10 k z λk=>?_;cases h;exact Qdy k z (RV.tmp k z) (RV.tmp k z) ⟨z,m.ext⟩
   exact ⟨_,_,k.p z,m.sl [] z,h⟩
 refine uc 3 k z λk=>sv k z (Q1l k underlying9 z z) λa k=>pN 2 k z λa k=>bS h k 9 z (λ_ h k=>?_) λ_ h k=>?_
 · refine ul 15 k z λk=>?_;cases h;exact Qdy k z (RV.tmp k z) (RV.tmp k z) ⟨z,m.ext⟩
 refine pN 1 k z λa k=>sv k z (Q1l k underlying9 z z) λa k=>ul 4 k z λk=>cJ h k z (λh=>?_) λh=>?_
 · refine uc 8 k z λk=>?_;cases h;exact Qdy k z (RV.tmp k z) (RV.tmp k z) ⟨z,m.ext⟩
 refine uc 2 k z λk=>?_;exact ⟨k.p z,m.sl [] z,h⟩
theorem Q14 (fu) {w0} (Ak Af Am) {r} (h:Qog fu Ak Af Am=some r):Calls Tryz.prog 143 #[.string (Ak),.string (Af),I Am] w0 λe w=>∃ (v0:Value) (G0:List Nat),e=.returned (.tuple #[v0,.bool (r.2)])∧Ext [] w0 w∧ow w G0 [v0] r.1∧(∀ b∈G0,w0.heap.size≤b):=by
 refine eg (vs:=[_,_,_]) func143 z ntmps143 z λk m=>oE h λx4 Ba h=>uc 9 k z λk=>sL k m call43 z (Qxo fu _ _  Ba) λw7 Ap F8 Aa k m=>ul 5 k z λk=>sB Qbf m k z (by exact fN) λAb As Bm a k m e Be=>?_;have Aj:=Qai Be ([]:List Int) z z z;refine ul 3 k z λk=>cg (λa w=>K 51 [(8,Ap),(9,(.slice (some ⟨Ab,0,none⟩) 0 0))] a∧St [] w0 w [(F8,w7),([Ab],As)]∧Qrn fu x4=some r) ?_ ?_
 · rintro a Bv ⟨k,m,h⟩;refine uc 7 k z λk=>lG (λn a w=>∃ Ah Ag Ad Ai Ae,K 51 [(8,Ap),(9,Ag),(10,I Ae)] a∧St [] w0 w [(F8,w7),(Ad,Ai)]∧ow Ai Ad [Ag] Ah∧Qhk fu x4 n Ah Ae=some r) ?_ fu ?_
   · rintro Bw a Bq ⟨Ah,Ag,Ad,Ai,Ae,k,m,Ar,h⟩;refine gc 9 [lF (Enc.ow_rd Aa)] k z λk=>cJ h k z (λh=>?_) λh=>?_
     · refine o2 h λBt Al Aq Av h=>gc 10 [iF (Enc.ow_rd Aa) Al,eF (m.q Aa 0 z) Al 0] k z λk=>cC k m call46 z (Q3h fu _  Av) λBu e a k m=>ul 14 k z λk=>cJ h k z (λh=>?_) λh=>?_
       · refine uc 2 k z λk=>sB Qbf m k z (by exact fN) λBg Bs Br a k m e Az=>?_;have Aw:=Qai Az ([]:List Int) z z z;refine ul 11 k z λk=>?_;cases h;exact Qdy k z (RV.tmp k z) (RV.tmp k z) ⟨_,[Bg],z,m.ext,(m.v Aw 0 z),(m.fresh 0 z)⟩
       refine uc 5 k z λk=>sB Qbf m k z (by exact fC z fN) λBp Bo Bn a k m e Bf=>?_;have Bd:=Qai Bf ([Aq.1]:List Int) z z z;refine oE h λBc Bj h=>Qcy Bj Qbf z m 2 Ar (News.rd (m.q Bd 0 z)) z z k z z z z z z z λBb Bi Bl a k e m Au=>ul 10 k z λk=>?_;exact ⟨_,_,_,_,_,k.p z,m.sl [1,2] z,Au,h⟩
     refine uc 13 k z λk=>?_;cases h;exact Qdy k z (RV.tmp k z) (RV.tmp k z) ⟨_,Ad,z,m.ext,(m.v Ar 1 z),(m.fresh 1 z)⟩
   exact ⟨_,_,_,_,_,k.p z,m.sl [0,1] z,Aj,h⟩
 refine oE h λBh Ao h=>gc 8 [iF (Enc.ow_rd Aa) Ao,eF (m.q Aa 1 z) Ao 0] k z λk=>bS h k 21 z (λ_ h k=>?_) λ_ h k=>?_
 · refine ul 18 k z λk=>?_;cases h;exact Qdy k z (RV.tmp k z) (RV.tmp k z) ⟨_,[Ab],z,m.ext,(m.v Aj 0 z),(m.fresh 0 z)⟩
 refine gl 8 [lF (Enc.ow_rd Aa)] k z λk=>cJ h k z (λh=>?_) λh=>?_
 · refine uc 9 k z λk=>?_;cases h;exact Qdy k z (RV.tmp k z) (RV.tmp k z) ⟨_,[Ab],z,m.ext,(m.v Aj 0 z),(m.fresh 0 z)⟩
 refine uc 2 k z λk=>?_;exact ⟨k.p z,m.sl [1,0] z,h⟩
theorem Qdx (fu) {w0} (Ag Ad Ae Af) {v2 F3} (Aa:rd w0 F3 [v2] Ag) {r} (h:Qbc fu Ag Ad Ae Af=some r):Calls Tryz.prog 81 #[v2,I Ad,.string (Ae),I Af] w0 λe w=>∃ (v0:Value) (G0:List Nat),e=.returned (.tuple #[v0,.bool (r.2)])∧Ext [] w0 w∧ow w G0 [v0] r.1∧(∀ b∈G0,w0.heap.size≤b):=by
 refine eg (vs:=[_,_,_,_]) func81 z ntmps81 z λk m=>gc 16 [lF Aa] k z λk=>cJ h k z (λh=>?_) λh=>?_
 · refine uc 2 k z λk=>sB Qbf m k z (by exact fN) λg9 Ao Au a k m e Al=>?_;have Ai:=Qai Al ([]:List Int) z z z;refine ul 6 k z λk=>?_;cases h;exact Qdy k z (RV.tmp k z) (RV.tmp k z) ⟨_,[g9],z,m.ext,(m.v Ai 0 z),(m.fresh 0 z)⟩
 refine o2 h λAr Ac As Am h=>gc 10 [iF Aa Ac,eF (m.r Aa) Ac 0] k z λk=>sC k call143 z (Q14 fu _ _ _  Am) λAq At hR=>?_;obtain ⟨Ap,Ah,rfl,e,Ab,Aj⟩:=hR;refine ⟨_,z,λa k=>?_⟩;have m:=m.nw e Aj Ab;refine ul 7 k z λk=>?_;cases h;exact Qdy k z (RV.tmp k z) (RV.tmp k z) ⟨_,Ah,z,m.ext,(m.v Ab 0 z),(m.fresh 0 z)⟩
theorem Qun (fu) {w0} (Fu) {r} (h:Qir fu Fu=some r):Calls Tryz.prog 48 #[.string (Fu)] w0 λe w=>∃ (Fa:List Value) (G0:List Nat),e=.returned (.tuple #[.agg Fa.toArray,I r.2])∧Ext [] w0 w∧ow w G0 Fa r.1∧(∀ b∈G0,w0.heap.size≤b):=by
 refine eg (vs:=[_]) func48 z ntmps48 z λk m=>uc 2 k z λk=>Qaj m k zeroValue55 z z z z z λb2 w4 a k m e Ao=>oE h λx5 Hz h=>ul 6 k z λk=>sL k m call43 z (Qxo fu _ _  Hz) λw9 Bi Au Ab k m=>gl 18 [lF (Enc.ow_rd Ab)] k z λk=>cJ h k z (λh=>?_) λh=>?_
 · refine uc 2 k z λk=>sv k z (Qag Q55 k (cs:=#[I 0,I 0,I 0,I 0,I 0,I 0,.slice none 0 0,.slice none 0 0,I 0,.slice none 0 0]) (ps:=[]) z z (by kernel_rfl)) λa k=>sT sizeOf55 m 1 Ao 0 k z z λNf a k e m Hm=>ul 5 k z λk=>?_;cases h;exact Qdy k z (RV.cA k z Qyf (Hm.at (m.a 1 z) 0 10 z z z) z) (RV.tmp k z) ⟨_,_,z,m.ext,⟨_,[],_,[],_,[],z,z,(Qaw _),(Qaw _),(Qaw _),by simpa [fps] using (m.sl [] z).nd⟩,(Qa0 (by simp) (Qa0 (by simp) (by simp)))⟩
 refine uc 4 k z λk=>sv k z (Qag Q55 k (cs:=#[I 0,I 0,I 0,I 0,I 0,I 0,.slice none 0 0,.slice none 0 0,I 0,.slice none 0 0]) (ps:=[]) z z (by kernel_rfl)) λa k=>Qaj m k zeroValue55 z z z z z λAa Od a k m e Kc=>sT sizeOf55 m 0 Kc 0 k z z λDt a k e m Fn=>ul 7 k z λk=>cg (λa w=>K 217 [(2,pt b2),(4,Bi),(5,I (w64 ((x5.length:Int) - 1))),(6,pt Aa)] a∧St [] w0 w [([b2],w4),([Aa],Dt),(Au,w9)]∧Qg1 fu x5=some r) ?_ ?_
 · rintro a Nh ⟨k,m,h⟩;refine cg (λa w=>∃ Ac Ck,K 217 [(2,pt b2),(4,Bi),(5,I (w64 ((x5.length:Int) - 1))),(6,pt Aa)] a∧St [] w0 w [([b2],w4),([Aa],Ck),(Au,w9)]∧bx Ck Aa [I Ac,I 0,I 0,I 0,I 0,I 0,.slice none 0 0,.slice none 0 0,I 0,.slice none 0 0] 55∧Qd3 fu x5 Ac=some r) ?_ ?_
   · rintro a Mn ⟨Ac,Ck,k,m,Jd,h⟩;refine oE h λNt Gg h=>uc 9 k z λk=>sC k call81 z (Qdx fu _ _ _ _ (m.q Ab 2 z) Gg) λMk Mz hR=>?_;obtain ⟨Ma,Gq,rfl,e,Am,Jt⟩:=hR;refine ⟨_,z,λa k=>?_⟩;have m:=m.nw e Jt Am;refine ul 14 k z λk=>cJ h k z (λh=>?_) λh=>?_
     · refine uc 2 k z λk=>sv k z (Qag Q55 k (cs:=#[I 0,I 0,I 0,I 0,I 0,I 0,.slice none 0 0,.slice none 0 0,I 0,.slice none 0 0]) (ps:=[]) z z (by kernel_rfl)) λa k=>pN 1 k z λa k=>sT sizeOf55 m 1 Ao 0 k z z λNd a k e m Ht=>ul 5 k z λk=>?_;cases h;exact Qdy k z (RV.cA k z Qyf (Ht.at (m.a 1 z) 0 10 z z z) z) (RV.tmp k z) ⟨_,_,z,m.ext,⟨_,[],_,[],_,[],z,z,(Qaw _),(Qaw _),(Qaw _),by simpa [fps] using (m.sl [] z).nd⟩,(Qa0 (by simp) (Qa0 (by simp) (by simp)))⟩
     refine uc 3 k z λk=>Qgu ([Aa]) Qge m z λGy hMd=>?_;have m:=hMd;have s:=Ext.refl (([Aa]):List Nat) Gy;refine dM [0,3,6,9] 4 z k z s λa k=>oE h λAd Dy h=>dT k 1 z z s (λw s=>Qci (Enc.ow_rd Am) Dy k Qlz z z z) λa k=>dT k 2 z z s (λw s=>Qcq (Enc.ow_rd Am) (hMd.az 0 2 z z z s) Dy 0 t13 k z z z z) λa k=>oE h λAg Dz h=>dT k 4 z z s (λw s=>Qci (Enc.ow_rd Am) Dz k Qlz z z z) λa k=>dT k 5 z z s (λw s=>Qcq (Enc.ow_rd Am) (hMd.az 0 2 z z z s) Dz 0 t13 k z z z z) λa k=>oE h λAe Ei h=>dT k 7 z z s (λw s=>Qci (Enc.ow_rd Am) Ei k Qlz z z z) λa k=>dT k 8 z z s (λw s=>Qcq (Enc.ow_rd Am) (hMd.az 0 2 z z z s) Ei 0 t13 k z z z z) λa k=>oE h λAf Ga h=>dT k 10 z z s (λw s=>Qci (Enc.ow_rd Am) Ga k Qlz z z z) λa k=>dT k 11 z z s (λw s=>Qcq (Enc.ow_rd Am) (hMd.az 0 2 z z z s) Ga 0 t13 k z z z z) λa k=>dT k 12 z z s (λw s=>Qag Jla k (cs:=#[I Ad,I Ag,I Ae,I Af]) (ps:=[(0,.tmp 51),(1,.tmp 54),(2,.tmp 57),(3,.tmp 60)]) z z (by kernel_rfl)) λa k=>dF k 13 Q6w z s λa k=>dG 14 z ?_;refine sT sizeOf50 m 2 Jd 1 k z z λMd a k e m Iv=>?_;have s:=s.trans e (λy hy=>Or.inl hy);refine wpList_nil ⟨s,?_⟩;refine dD ?_;refine (Qad ?_);refine oE h λOa Gd h=>uc 9 k z λk=>sC k call81 z (Qdx fu _ _ _ _ (m.q Ab 3 z) Gd) λMc Lu hR=>?_;obtain ⟨Mu,La,rfl,e,Cd,Ib⟩:=hR;refine ⟨_,z,λa k=>?_⟩;have m:=m.nw e Ib Cd;refine ul 14 k z λk=>cJ h k z (λh=>?_) λh=>?_
     · refine uc 2 k z λk=>sv k z (Qag Q55 k (cs:=#[I 0,I 0,I 0,I 0,I 0,I 0,.slice none 0 0,.slice none 0 0,I 0,.slice none 0 0]) (ps:=[]) z z (by kernel_rfl)) λa k=>pN 1 k z λa k=>sT sizeOf55 m 2 Ao 0 k z z λLv a k e m Kb=>ul 5 k z λk=>?_;cases h;exact Qdy k z (RV.cA k z Qyf (Kb.at (m.a 2 z) 0 10 z z z) z) (RV.tmp k z) ⟨_,_,z,m.ext,⟨_,[],_,[],_,[],z,z,(Qaw _),(Qaw _),(Qaw _),by simpa [fps] using (m.sl [] z).nd⟩,(Qa0 (by simp) (Qa0 (by simp) (by simp)))⟩
     refine oE h λAh Eu h=>gc 8 [iF (Enc.ow_rd Cd) Eu,eF (m.q Cd 0 z) Eu 0] k z λk=>sT sizeOf3 m 3 Iv 5 k z z λKr a k e m Jb=>oE h λEb Hg h=>ul 11 k z λk=>sC k call81 z (Qdx fu _ _ _ _ (m.q Ab 4 z) Hg) λOb Ia hR=>?_;obtain ⟨Kk,Em,rfl,e,Cw,Gj⟩:=hR;refine ⟨_,z,λa k=>?_⟩;have m:=m.nw e Gj Cw;refine ul 9 k z λk=>lG (λn a w=>∃ Ax Ak Al Bv Ch Av Cl Dj Dc Dn Df,K 217 [(2,pt b2),(4,Bi),(5,I (w64 ((x5.length:Int) - 1))),(6,pt Aa),(7,I Av),(8,Dj),(9,.bool (Df))] a∧St [] w0 w [([b2],w4),(Al,Bv),([Aa],Ch),(Au,w9),(Dc,Dn)]∧ow Bv Al [Ak] Ax∧bx Ch Aa [I Ac,I Ad,I Ag,I Ae,I Af,I Ah,Ak,.slice none 0 0,I 0,.slice none 0 0] 55∧ow Dn Dc [Dj] Cl∧Qha fu x5 Ac Ad Ag Ae Af Ah n Ax Av Cl Df=some r) ?_ fu ?_
     · rintro No a Oe ⟨Ax,Ak,Al,Bv,Ch,Av,Cl,Dj,Dc,Dn,Df,k,m,Bz,Bg,Cc,h⟩;refine uc 6 k z λk=>cJ h k z (λh=>?_) λh=>?_
       · refine uc 4 k z λk=>Qgu (Al++([Aa])) Qge m z λJh hMd=>?_;have m:=hMd;have s:=Ext.refl ((Al++([Aa])):List Nat) Jh;have hMj:=(hMd.sel [1,2,0,3,4] z (by decide)).join2;refine dM [2,5] 2 z k z s λa k=>dF k 0 Qta z s λa k=>oE h λBn Fs h=>dT k 3 z z s (λw s=>Qci (Enc.ow_rd Cc) Fs k Qlz z z z) λa k=>dT k 4 z z s (λw s=>Qcq (Enc.ow_rd Cc) (hMj.az 3 0 z z z s) Fs 0 t13 k z z z z) λa k=>oE h λBh Eh h=>dT k 6 z z s (λw s=>Qci (Enc.ow_rd Cc) Eh k Qlz z z z) λa k=>dT k 7 z z s (λw s=>Qcq (Enc.ow_rd Cc) (hMj.az 3 0 z z z s) Eh 0 t13 k z z z z) λa k=>dT k 8 z z s (λw s=>Qag Jgz k (cs:=#[I Bn,I Bh]) (ps:=[(0,.tmp 88),(1,.tmp 91)]) z z (by kernel_rfl)) λa k=>dG2 1 9 (by kernel_rfl) z z ?_ ?_
         · refine gl 1 [bF m 2 Bg z] k z λk=>wpList_nil ⟨s,?_⟩;refine dG 9 z (Qbw Q6e m k z z z z z z z (by decide) z (by exact fC z fN) λMj Lo Mh a k m e Jk Lb=>?_);have Me:=lo1 (Nat.le_trans s.size Lb);have Kz:=Qai Jk ([(⟨Bn,Bh⟩:Pair)]:List Pair) z z z;refine ns s e λs=>dG 10 z (oE h λIh It h=>Qap It Q6e z m 2 Bz (News.rd (m.q Kz 0 z)) z z k z z z z z z z λDr Ek Hh a k e m Cq Jn=>?_);have Mm:∀ y∈Ek,y∈(Al++([Aa]))∨_≤y:=λy hy=>(Jn y hy).elim (λhy=>(λy hy=>Or.inl (List.mem_append_left _ hy)) y hy) (λh=>Or.inr (Nat.le_trans s.size h));have s:=s.trans e (λy hy=>Or.inl (List.mem_append_left _ hy));refine wpList_nil ⟨s,?_⟩;refine dF k 11 Qta z s λa k=>dG 12 z (Qfi (cs':=[I Ac,I Ad,I Ag,I Ae,I Af,I Ah,Dr,.slice none 0 0,I 0,.slice none 0 0]) sizeOf51 m 3 Bg 6 k (Qid (Enc.ow_rd Cq)) (Qed (Enc.ow_rd Cq)) z z z z z z z z z λHf a k e m Gu=>?_);have s:=s.trans e (λy hy=>Or.inl (List.mem_append_right _ hy));refine wpList_nil ⟨s,?_⟩;refine dD ((Qad ?_));refine oE h λEc Gf h=>uc 10 k z λk=>sC k call81 z (Qdx fu _ _ _ _ (m.q Ab 4 z) Gf) λMs Kj hR=>?_;obtain ⟨Hq,Fe,rfl,e,Dq,Hl⟩:=hR;refine ⟨_,z,λa k=>?_⟩;have m:=m.nw e Hl Dq;refine ul 8 k z λk=>?_;exact ⟨_,_,_,_,_,_,_,_,_,_,_,k.p z,m.sl [2,3,4,5,0] z,Cq,Gu,Dq,h⟩
         refine Qbw Q6e m k z z z z z z z (by decide) z (by exact fC z fN) λNm Mb Nn a k m e Ig Gw=>?_;have Ns:=lo1 (Nat.le_trans s.size Gw);have Jf:=Qai Ig ([(⟨Bn,Bh⟩:Pair)]:List Pair) z z z;refine ns s e λs=>dG 1 z (gl 1 [bF m 3 Bg z] k z λk=>wpList_nil ⟨s,?_⟩);refine dG 10 z (oE h λJa Jc h=>Qap Jc Q6e z m 2 Bz (News.rd (m.q Jf 0 z)) z z k z z z z z z z λEt Fq Iy a k e m Co Kx=>?_);have Ll:∀ y∈Fq,y∈(Al++([Aa]))∨_≤y:=λy hy=>(Kx y hy).elim (λhy=>(λy hy=>Or.inl (List.mem_append_left _ hy)) y hy) (λh=>Or.inr (Nat.le_trans s.size h));have s:=s.trans e (λy hy=>Or.inl (List.mem_append_left _ hy));refine wpList_nil ⟨s,?_⟩;refine dF k 11 Qta z s λa k=>dG 12 z (Qfi (cs':=[I Ac,I Ad,I Ag,I Ae,I Af,I Ah,Et,.slice none 0 0,I 0,.slice none 0 0]) sizeOf51 m 3 Bg 6 k (Qid (Enc.ow_rd Co)) (Qed (Enc.ow_rd Co)) z z z z z z z z z λIc a k e m Hv=>?_);have s:=s.trans e (λy hy=>Or.inl (List.mem_append_right _ hy));refine wpList_nil ⟨s,?_⟩;refine dD ((Qad ?_));refine oE h λFi Hx h=>uc 10 k z λk=>sC k call81 z (Qdx fu _ _ _ _ (m.q Ab 4 z) Hx) λLt Jg hR=>?_;obtain ⟨Ks,Ed,rfl,e,Dm,Gc⟩:=hR;refine ⟨_,z,λa k=>?_⟩;have m:=m.nw e Gc Dm;refine ul 8 k z λk=>?_;exact ⟨_,_,_,_,_,_,_,_,_,_,_,k.p z,m.sl [2,3,4,5,0] z,Co,Hv,Dm,h⟩
       refine oE h λEs Lc h=>uc 9 k z λk=>sC k call81 z (Qdx fu _ _ _ _ (m.q Ab 3 z) Lc) λLq Lg hR=>?_;obtain ⟨Ir,Fy,rfl,e,Cv,Hk⟩:=hR;refine ⟨_,z,λa k=>?_⟩;have m:=m.nw e Hk Cv;refine ul 9 k z λk=>lG (λn a w=>∃ Ce Aq Ap Cg Ct As Dl Cm De Cr Cj,K 217 [(2,pt b2),(4,Bi),(5,I (w64 ((x5.length:Int) - 1))),(6,pt Aa),(7,I As),(8,Cm),(9,.bool (Cj))] a∧St [] w0 w [([b2],w4),(Ap,Cg),([Aa],Ct),(Au,w9),(Al,Bv),(De,Cr)]∧ow Cg Ap [Aq] Ce∧bx Ct Aa [I Ac,I Ad,I Ag,I Ae,I Af,I Ah,Ak,Aq,I 0,.slice none 0 0] 55∧ow Cr De [Cm] Dl∧Qe2 fu x5 Ac Ad Ag Ae Af Ah Ax n Ce As Dl Cj=some r) ?_ fu ?_
       · rintro Mo a Nk ⟨Ce,Aq,Ap,Cg,Ct,As,Dl,Cm,De,Cr,Cj,k,m,Bx,Bu,Aj,h⟩;refine uc 6 k z λk=>cJ h k z (λh=>?_) λh=>?_
         · refine uc 4 k z λk=>Qgu (Ap++([Aa])) Qge m z λLd hMd=>?_;have m:=hMd;have s:=Ext.refl ((Ap++([Aa])):List Nat) Ld;have hMj:=(hMd.sel [1,2,0,3,4,5] z (by decide)).join2;refine dM [2,5,8,11,14,17,20] 7 z k z s λa k=>dF k 0 Qif z s λa k=>oE h λBj Er h=>dT k 3 z z s (λw s=>Qci (Enc.ow_rd Aj) Er k Qlz z z z) λa k=>dT k 4 z z s (λw s=>Qcq (Enc.ow_rd Aj) (hMj.az 4 0 z z z s) Er 0 t13 k z z z z) λa k=>oE h λBq Ey h=>dT k 6 z z s (λw s=>Qci (Enc.ow_rd Aj) Ey k Qlz z z z) λa k=>dT k 7 z z s (λw s=>Qcq (Enc.ow_rd Aj) (hMj.az 4 0 z z z s) Ey 0 t13 k z z z z) λa k=>oE h λBc Ef h=>dT k 9 z z s (λw s=>Qci (Enc.ow_rd Aj) Ef k Qlz z z z) λa k=>dT k 10 z z s (λw s=>Qcq (Enc.ow_rd Aj) (hMj.az 4 0 z z z s) Ef 0 t13 k z z z z) λa k=>oE h λBe Fj h=>dT k 12 z z s (λw s=>Qci (Enc.ow_rd Aj) Fj k Qlz z z z) λa k=>dT k 13 z z s (λw s=>Qcq (Enc.ow_rd Aj) (hMj.az 4 0 z z z s) Fj 0 t13 k z z z z) λa k=>oE h λAy Ea h=>dT k 15 z z s (λw s=>Qci (Enc.ow_rd Aj) Ea k Qlz z z z) λa k=>?_;refine dT k 16 z z s (λw s=>Qcq (Enc.ow_rd Aj) (hMj.az 4 0 z z z s) Ea 0 t13 k z z z z) λa k=>oE h λBk Fm h=>dT k 18 z z s (λw s=>Qci (Enc.ow_rd Aj) Fm k Qlz z z z) λa k=>dT k 19 z z s (λw s=>Qcq (Enc.ow_rd Aj) (hMj.az 4 0 z z z s) Fm 0 t13 k z z z z) λa k=>oE h λBr Ep h=>dT k 21 z z s (λw s=>Qci (Enc.ow_rd Aj) Ep k Qlz z z z) λa k=>dT k 22 z z s (λw s=>Qcq (Enc.ow_rd Aj) (hMj.az 4 0 z z z s) Ep 0 t13 k z z z z) λa k=>dT k 23 z z s (λw s=>Qag Q47 k (cs:=#[I Bj,I Bq,I Bc,I Be,I Ay,I Bk,I Br]) (ps:=[(0,.tmp 115),(1,.tmp 118),(2,.tmp 121),(3,.tmp 124),(4,.tmp 127),(5,.tmp 130),(6,.tmp 133)]) z z (by kernel_rfl)) λa k=>dG2 1 24 (by kernel_rfl) z z ?_ ?_
           · refine gl 1 [bF m 2 Bu z] k z λk=>wpList_nil ⟨s,?_⟩;refine dG 24 z (Qbw Qva m k z z z z z z z (by decide) z (by exact fC z fN) λLz Nz Lk a k m e Gi Gn=>?_);have Ni:=lo1 (Nat.le_trans s.size Gn);have Ka:=Qai Gi ([(⟨Bj,Bq,Bc,Be,Ay,Bk,Br⟩:Typ)]:List Typ) z z z;refine ns s e λs=>dG 25 z (oE h λIz Jr h=>Qap Jr Qva z m 2 Bx (News.rd (m.q Ka 0 z)) z z k z z z z z z z λEz Fk Gx a k e m Cy Hp=>?_);have Ml:∀ y∈Fk,y∈(Ap++([Aa]))∨_≤y:=λy hy=>(Hp y hy).elim (λhy=>(λy hy=>Or.inl (List.mem_append_left _ hy)) y hy) (λh=>Or.inr (Nat.le_trans s.size h));have s:=s.trans e (λy hy=>Or.inl (List.mem_append_left _ hy));refine wpList_nil ⟨s,?_⟩;refine dF k 26 Qif z s λa k=>dG 27 z (Qfi (cs':=[I Ac,I Ad,I Ag,I Ae,I Af,I Ah,Ak,Ez,I 0,.slice none 0 0]) sizeOf52 m 3 Bu 7 k (Qid (Enc.ow_rd Cy)) (Qed (Enc.ow_rd Cy)) z z z z z z z z z λJo a k e m Kn=>?_);have s:=s.trans e (λy hy=>Or.inl (List.mem_append_right _ hy));refine wpList_nil ⟨s,?_⟩;refine dD ?_;refine (Qad ?_);refine oE h λFh Kq h=>uc 10 k z λk=>sC k call81 z (Qdx fu _ _ _ _ (m.q Ab 4 z) Kq) λLw If hR=>?_;obtain ⟨Je,En,rfl,e,Di,Jj⟩:=hR;refine ⟨_,z,λa k=>?_⟩;have m:=m.nw e Jj Di;refine ul 8 k z λk=>?_;exact ⟨_,_,_,_,_,_,_,_,_,_,_,k.p z,m.sl [2,3,4,5,6,0] z,Cy,Kn,Di,h⟩
           refine Qbw Qva m k z z z z z z z (by decide) z (by exact fC z fN) λNa Li Nu a k m e Il Ki=>?_;have Mr:=lo1 (Nat.le_trans s.size Ki);have Id:=Qai Il ([(⟨Bj,Bq,Bc,Be,Ay,Bk,Br⟩:Typ)]:List Typ) z z z;refine ns s e λs=>dG 1 z (gl 1 [bF m 3 Bu z] k z λk=>wpList_nil ⟨s,?_⟩);refine dG 25 z (oE h λHc Gm h=>Qap Gm Qva z m 2 Bx (News.rd (m.q Id 0 z)) z z k z z z z z z z λEv Ff Jz a k e m Db Is=>?_);have Mw:∀ y∈Ff,y∈(Ap++([Aa]))∨_≤y:=λy hy=>(Is y hy).elim (λhy=>(λy hy=>Or.inl (List.mem_append_left _ hy)) y hy) (λh=>Or.inr (Nat.le_trans s.size h));have s:=s.trans e (λy hy=>Or.inl (List.mem_append_left _ hy));refine wpList_nil ⟨s,?_⟩;refine dF k 26 Qif z s λa k=>dG 27 z (Qfi (cs':=[I Ac,I Ad,I Ag,I Ae,I Af,I Ah,Ak,Ev,I 0,.slice none 0 0]) sizeOf52 m 3 Bu 7 k (Qid (Enc.ow_rd Db)) (Qed (Enc.ow_rd Db)) z z z z z z z z z λGh a k e m Kf=>?_);have s:=s.trans e (λy hy=>Or.inl (List.mem_append_right _ hy));refine wpList_nil ⟨s,?_⟩;refine dD ?_;refine (Qad ?_);refine oE h λDw Jq h=>uc 10 k z λk=>sC k call81 z (Qdx fu _ _ _ _ (m.q Ab 4 z) Jq) λNg Hr hR=>?_;obtain ⟨Ky,Dv,rfl,e,Dk,Iu⟩:=hR;refine ⟨_,z,λa k=>?_⟩;have m:=m.nw e Iu Dk;refine ul 8 k z λk=>?_;exact ⟨_,_,_,_,_,_,_,_,_,_,_,k.p z,m.sl [2,3,4,5,6,0] z,Db,Kf,Dk,h⟩
         refine oE h λNw Hi h=>uc 9 k z λk=>sC k call81 z (Qdx fu _ _ _ _ (m.q Ab 3 z) Hi) λOc Lm hR=>?_;obtain ⟨Mp,Jl,rfl,e,Ca,Ju⟩:=hR;refine ⟨_,z,λa k=>?_⟩;have m:=m.nw e Ju Ca;refine ul 14 k z λk=>cJ h k z (λh=>?_) λh=>?_
         · refine uc 2 k z λk=>sv k z (Qag Q55 k (cs:=#[I 0,I 0,I 0,I 0,I 0,I 0,.slice none 0 0,.slice none 0 0,I 0,.slice none 0 0]) (ps:=[]) z z (by kernel_rfl)) λa k=>pN 1 k z λa k=>sT sizeOf55 m 1 Ao 0 k z z λLs a k e m Kp=>ul 5 k z λk=>?_;cases h;exact Qdy k z (RV.cA k z Qyf (Kp.at (m.a 1 z) 0 10 z z z) z) (RV.tmp k z) ⟨_,_,z,m.ext,⟨_,[],_,[],_,[],z,z,(Qaw _),(Qaw _),(Qaw _),by simpa [fps] using (m.sl [] z).nd⟩,(Qa0 (by simp) (Qa0 (by simp) (by simp)))⟩
         refine oE h λAt Ew h=>gc 8 [iF (Enc.ow_rd Ca) Ew,eF (m.q Ca 0 z) Ew 0] k z λk=>sT sizeOf3 m 3 Bu 8 k z z λIq a k e m Jx=>oE h λFl Jy h=>ul 13 k z λk=>sC k call81 z (Qdx fu _ _ _ _ (m.q Ab 4 z) Jy) λLx Lh hR=>?_;obtain ⟨Ij,Ee,rfl,e,Cp,Ii⟩:=hR;refine ⟨_,z,λa k=>?_⟩;have m:=m.nw e Ii Cp;refine ul 9 k z λk=>lG (λn a w=>∃ Do Cb Ar Cu Cs Aw Cz Cn Dp Ci Dd,K 217 [(2,pt b2),(4,Bi),(5,I (w64 ((x5.length:Int) - 1))),(6,pt Aa),(7,I Aw),(8,Cn),(9,.bool (Dd))] a∧St [] w0 w [([b2],w4),(Ar,Cu),([Aa],Cs),(Au,w9),(Al,Bv),(Ap,Cg),(Dp,Ci)]∧ow Cu Ar [Cb] Do∧bx Cs Aa [I Ac,I Ad,I Ag,I Ae,I Af,I Ah,Ak,Aq,I At,Cb] 55∧ow Ci Dp [Cn] Cz∧Qe7 fu x5 Ac Ad Ag Ae Af Ah Ax Ce At n Do Aw Cz Dd=some r) ?_ fu ?_
         · rintro Mt a Ny ⟨Do,Cb,Ar,Cu,Cs,Aw,Cz,Cn,Dp,Ci,Dd,k,m,By,Bf,Ai,h⟩;refine uc 6 k z λk=>cJ h k z (λh=>?_) λh=>?_
           · refine uc 4 k z λk=>Qgu (Ar++([Aa])) Qge m z λKv hMd=>?_;have m:=hMd;have s:=Ext.refl ((Ar++([Aa])):List Nat) Kv;have hMj:=(hMd.sel [1,2,0,3,4,5,6] z (by decide)).join2;refine dM [2,5,8,11,14,17,20] 7 z k z s λa k=>dF k 0 Quq z s λa k=>oE h λBp Ft h=>dT k 3 z z s (λw s=>Qci (Enc.ow_rd Ai) Ft k Qlz z z z) λa k=>dT k 4 z z s (λw s=>Qcq (Enc.ow_rd Ai) (hMj.az 5 0 z z z s) Ft 0 t13 k z z z z) λa k=>oE h λBa Du h=>dT k 6 z z s (λw s=>Qci (Enc.ow_rd Ai) Du k Qlz z z z) λa k=>dT k 7 z z s (λw s=>Qcq (Enc.ow_rd Ai) (hMj.az 5 0 z z z s) Du 0 t13 k z z z z) λa k=>oE h λBs Fc h=>dT k 9 z z s (λw s=>Qci (Enc.ow_rd Ai) Fc k Qlz z z z) λa k=>dT k 10 z z s (λw s=>Qcq (Enc.ow_rd Ai) (hMj.az 5 0 z z z s) Fc 0 t13 k z z z z) λa k=>oE h λBt Fz h=>dT k 12 z z s (λw s=>Qci (Enc.ow_rd Ai) Fz k Qlz z z z) λa k=>dT k 13 z z s (λw s=>Qcq (Enc.ow_rd Ai) (hMj.az 5 0 z z z s) Fz 0 t13 k z z z z) λa k=>oE h λBo Fd h=>dT k 15 z z s (λw s=>Qci (Enc.ow_rd Ai) Fd k Qlz z z z) λa k=>?_;refine dT k 16 z z s (λw s=>Qcq (Enc.ow_rd Ai) (hMj.az 5 0 z z z s) Fd 0 t13 k z z z z) λa k=>oE h λBd Ex h=>dT k 18 z z s (λw s=>Qci (Enc.ow_rd Ai) Ex k Qlz z z z) λa k=>dT k 19 z z s (λw s=>Qcq (Enc.ow_rd Ai) (hMj.az 5 0 z z z s) Ex 0 t13 k z z z z) λa k=>oE h λBm Fp h=>dT k 21 z z s (λw s=>Qci (Enc.ow_rd Ai) Fp k Qlz z z z) λa k=>dT k 22 z z s (λw s=>Qcq (Enc.ow_rd Ai) (hMj.az 5 0 z z z s) Fp 0 t13 k z z z z) λa k=>dT k 23 z z s (λw s=>Qag Q8p k (cs:=#[I Bp,I Ba,I Bs,I Bt,I Bo,I Bd,I Bm]) (ps:=[(0,.tmp 173),(1,.tmp 176),(2,.tmp 179),(3,.tmp 182),(4,.tmp 185),(5,.tmp 188),(6,.tmp 191)]) z z (by kernel_rfl)) λa k=>dG2 1 24 (by kernel_rfl) z z ?_ ?_
             · refine gl 1 [bF m 2 Bf z] k z λk=>wpList_nil ⟨s,?_⟩;refine dG 24 z (Qbw Q3y m k z z z z z z z (by decide) z (by exact fC z fN) λMx Nr Ln a k m e Ko Gv=>?_);have My:=lo1 (Nat.le_trans s.size Gv);have Jv:=Qai Ko ([(⟨Bp,Ba,Bs,Bt,Bo,Bd,Bm⟩:Item)]:List Item) z z z;refine ns s e λs=>dG 25 z (oE h λIm He h=>Qap He Q3y z m 2 By (News.rd (m.q Jv 0 z)) z z k z z z z z z z λFg Eg Ho a k e m Cx Kt=>?_);have Nj:∀ y∈Eg,y∈(Ar++([Aa]))∨_≤y:=λy hy=>(Kt y hy).elim (λhy=>(λy hy=>Or.inl (List.mem_append_left _ hy)) y hy) (λh=>Or.inr (Nat.le_trans s.size h));have s:=s.trans e (λy hy=>Or.inl (List.mem_append_left _ hy));refine wpList_nil ⟨s,?_⟩;refine dF k 26 Quq z s λa k=>dG 27 z (Qfi (cs':=[I Ac,I Ad,I Ag,I Ae,I Af,I Ah,Ak,Aq,I At,Fg]) sizeOf53 m 3 Bf 9 k (Qid (Enc.ow_rd Cx)) (Qed (Enc.ow_rd Cx)) z z z z z z z z z λGr a k e m Ge=>?_);have s:=s.trans e (λy hy=>Or.inl (List.mem_append_right _ hy));refine wpList_nil ⟨s,?_⟩;refine dD ?_;refine (Qad ?_);refine oE h λDs Gt h=>uc 10 k z λk=>sC k call81 z (Qdx fu _ _ _ _ (m.q Ab 4 z) Gt) λMf Ku hR=>?_;obtain ⟨Ik,Fw,rfl,e,Dh,Gl⟩:=hR;refine ⟨_,z,λa k=>?_⟩;have m:=m.nw e Gl Dh;refine ul 8 k z λk=>?_;exact ⟨_,_,_,_,_,_,_,_,_,_,_,k.p z,m.sl [2,3,4,5,6,7,0] z,Cx,Ge,Dh,h⟩
             refine Qbw Q3y m k z z z z z z z (by decide) z (by exact fC z fN) λMq Lr Lp a k m e Hu Kl=>?_;have Nv:=lo1 (Nat.le_trans s.size Kl);have Kd:=Qai Hu ([(⟨Bp,Ba,Bs,Bt,Bo,Bd,Bm⟩:Item)]:List Item) z z z;refine ns s e λs=>dG 1 z (gl 1 [bF m 3 Bf z] k z λk=>wpList_nil ⟨s,?_⟩);refine dG 25 z (oE h λJi Ha h=>Qap Ha Q3y z m 2 By (News.rd (m.q Kd 0 z)) z z k z z z z z z z λFv Fb In a k e m Da Hd=>?_);have Nl:∀ y∈Fb,y∈(Ar++([Aa]))∨_≤y:=λy hy=>(Hd y hy).elim (λhy=>(λy hy=>Or.inl (List.mem_append_left _ hy)) y hy) (λh=>Or.inr (Nat.le_trans s.size h));have s:=s.trans e (λy hy=>Or.inl (List.mem_append_left _ hy));refine wpList_nil ⟨s,?_⟩;refine dF k 26 Quq z s λa k=>dG 27 z (Qfi (cs':=[I Ac,I Ad,I Ag,I Ae,I Af,I Ah,Ak,Aq,I At,Fv]) sizeOf53 m 3 Bf 9 k (Qid (Enc.ow_rd Da)) (Qed (Enc.ow_rd Da)) z z z z z z z z z λGp a k e m Kg=>?_);have s:=s.trans e (λy hy=>Or.inl (List.mem_append_right _ hy));refine wpList_nil ⟨s,?_⟩;refine dD ?_;refine (Qad ?_);refine oE h λEl Ip h=>uc 10 k z λk=>sC k call81 z (Qdx fu _ _ _ _ (m.q Ab 4 z) Ip) λLy Jp hR=>?_;obtain ⟨Hw,Ej,rfl,e,Dg,Hb⟩:=hR;refine ⟨_,z,λa k=>?_⟩;have m:=m.nw e Hb Dg;refine ul 8 k z λk=>?_;exact ⟨_,_,_,_,_,_,_,_,_,_,_,k.p z,m.sl [2,3,4,5,6,7,0] z,Da,Kg,Dg,h⟩
           refine uc 12 k z λk=>Qv3 (decide (Aw<(w64 ((x5.length:Int) - 1)))) (λBb=>?_) (λBb=>?_)
           · have h:=Qzf Bb h;refine rB k 207 z Bb λk=>ul 11 k z λk=>sv k z (Qag Q55 k (cs:=#[I 0,I 0,I 0,I 0,I 0,I 0,.slice none 0 0,.slice none 0 0,I 0,.slice none 0 0]) (ps:=[]) z z (by kernel_rfl)) λa k=>pN 1 k z λa k=>sT sizeOf55 m 0 Ao 0 k z z λNb a k e m Hy=>ul 5 k z λk=>?_;cases h;exact Qdy k z (RV.cA k z Qyf (Hy.at (m.a 0 z) 0 10 z z z) z) (RV.tmp k z) ⟨_,_,z,m.ext,⟨_,[],_,[],_,[],z,z,(Qaw _),(Qaw _),(Qaw _),by simpa [fps] using (m.sl [] z).nd⟩,(Qa0 (by simp) (Qa0 (by simp) (by simp)))⟩
           have h:=Qz6 Bb h;refine rB k 207 z Bb λk=>oE h λMv Dx h=>gl 8 [iF (Enc.ow_rd Ab) Dx,eF (m.q Ab 3 z) Dx 0] k z λk=>cJ h k z (λh=>?_) λh=>?_
           · refine uc 2 k z λk=>sv k z (Qag Q55 k (cs:=#[I 0,I 0,I 0,I 0,I 0,I 0,.slice none 0 0,.slice none 0 0,I 0,.slice none 0 0]) (ps:=[]) z z (by kernel_rfl)) λa k=>pN 1 k z λa k=>sT sizeOf55 m 0 Ao 0 k z z λNq a k e m Ie=>ul 5 k z λk=>?_;cases h;exact Qdy k z (RV.cA k z Qyf (Ie.at (m.a 0 z) 0 10 z z z) z) (RV.tmp k z) ⟨_,_,z,m.ext,⟨_,[],_,[],_,[],z,z,(Qaw _),(Qaw _),(Qaw _),by simpa [fps] using (m.sl [] z).nd⟩,(Qa0 (by simp) (Qa0 (by simp) (by simp)))⟩
           refine gc 5 [bA m 2 Bf z] k z λk=>sT sizeOf55 m 0 Ao 0 k z (Qa9 z (Qa9 z (Qa9 z (Qa9 z (Qa9 z (Qa9 z (Qa9 (Qed (Enc.ow_rd Bz)) (Qa9 (Qed (Enc.ow_rd Bx)) (Qa9 z (Qa9 (Qed (Enc.ow_rd By)) Qqm)))))))))) λLj a k e m Hj=>ul 4 k z λk=>?_;cases h;exact Qdy k z (RV.cA k z Qyf (Hj.at (m.a 0 z) 0 10 z z z) z) (RV.tmp k z) ⟨_,_,z,m.ext,⟨_,Al,_,Ap,_,Ar,z,z,(m.v Bz 4 z),(m.v Bx 5 z),(m.v By 1 z),by simpa [fps] using (m.sl [4,5,1] z).nd⟩,(Qa0 (m.fresh 4 z) (Qa0 (m.fresh 5 z) (m.fresh 1 z)))⟩
         exact ⟨_,_,_,_,_,_,_,_,_,_,_,k.p z,(m.addNil (u:=w0)).sel [3,0,5,6,7,4,1] z (by decide),(Qaw _),Jx,Cp,h⟩
       exact ⟨_,_,_,_,_,_,_,_,_,_,_,k.p z,(m.addNil (u:=w0)).sel [2,0,4,5,3,1] z (by decide),(Qaw _),Bg,Cv,h⟩
     exact ⟨_,_,_,_,_,_,_,_,_,_,_,k.p z,(m.addNil (u:=w0)).sel [4,0,5,6,1] z (by decide),(Qaw _),Jb,Cw,h⟩
   refine oE h λMg Eo h=>gc 8 [iF (Enc.ow_rd Ab) Eo,eF (m.q Ab 2 z) Eo 0] k z λk=>cJ h k z (λh=>?_) λh=>?_
   · refine uc 2 k z λk=>sT sizeOf3 m 1 Fn 0 k z z λGk a k e m Ke=>ul 2 k z λk=>?_;exact ⟨_,_,k.p z,m.sl [0,1,2] z,Ke,h⟩
   refine uc 2 k z λk=>?_;exact ⟨_,_,k.p z,m.sl [0,1,2] z,Fn,h⟩
 refine uc 5 k z λk=>Qv3 (decide ((w64 ((x5.length:Int) - 1))<1)) (λBl=>?_) (λBl=>?_)
 · have h:=Qzf Bl h;refine rB k 21 z Bl λk=>ul 16 k z λk=>sv k z (Qag Q55 k (cs:=#[I 0,I 0,I 0,I 0,I 0,I 0,.slice none 0 0,.slice none 0 0,I 0,.slice none 0 0]) (ps:=[]) z z (by kernel_rfl)) λa k=>sT sizeOf55 m 2 Ao 0 k z z λNc a k e m Kw=>ul 5 k z λk=>?_;cases h;exact Qdy k z (RV.cA k z Qyf (Kw.at (m.a 2 z) 0 10 z z z) z) (RV.tmp k z) ⟨_,_,z,m.ext,⟨_,[],_,[],_,[],z,z,(Qaw _),(Qaw _),(Qaw _),by simpa [fps] using (m.sl [] z).nd⟩,(Qa0 (by simp) (Qa0 (by simp) (by simp)))⟩
 have h:=Qz6 Bl h;refine rB k 21 z Bl λk=>oE h λKm Bw h=>gl 5 [iF (Enc.ow_rd Ab) Bw,eF (m.q Ab 1 z) Bw 0] k z λk=>bS h k 26 z (λ_ h k=>?_) λ_ h k=>?_
 · refine oE h λNp Nx h=>gl 8 [iF (Enc.ow_rd Ab) Bw,eF (m.q Ab 1 z) Bw 0] k z λk=>cJ h k z (λh=>?_) λh=>?_
   · refine uc 2 k z λk=>sv k z (Qag Q55 k (cs:=#[I 0,I 0,I 0,I 0,I 0,I 0,.slice none 0 0,.slice none 0 0,I 0,.slice none 0 0]) (ps:=[]) z z (by kernel_rfl)) λa k=>sT sizeOf55 m 2 Ao 0 k z z λMi a k e m Jm=>ul 5 k z λk=>?_;cases h;exact Qdy k z (RV.cA k z Qyf (Jm.at (m.a 2 z) 0 10 z z z) z) (RV.tmp k z) ⟨_,_,z,m.ext,⟨_,[],_,[],_,[],z,z,(Qaw _),(Qaw _),(Qaw _),by simpa [fps] using (m.sl [] z).nd⟩,(Qa0 (by simp) (Qa0 (by simp) (by simp)))⟩
   refine uc 2 k z λk=>?_;exact ⟨k.p z,m.sl [2,0,1] z,h⟩
 refine ul 11 k z λk=>?_;exact ⟨k.p z,m.sl [2,0,1] z,h⟩
end Go.Proofs.YthkaklkinepfkaaGreatDoor
