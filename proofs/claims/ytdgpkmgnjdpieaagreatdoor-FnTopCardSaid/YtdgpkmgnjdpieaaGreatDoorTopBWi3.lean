/- FnTop: the walks of .. -/
import Derived.Test.YtdgpkmgnjdpieaaGreatDoorTopBWi2
set_option maxRecDepth 20000
set_option linter.unusedSimpArgs false
set_option linter.unusedVariables false
set_option linter.unnecessarySimpa false
namespace Go.Proofs.YtdgpkmgnjdpieaaGreatDoor
open Go Go.RowKit
open Enc (rd ow)
open Arg (argv)
open Ret (retv)
open Go.Proofs.Tryz
theorem aI (fu) {E} (L D) {M J} (N:rd E J M L) {J} (A:bx E J [I D.fW,I D.fD,I D.fH,I D.fQ] 32) {r} (h:S8 fu L D=some r):cS 238 [.agg M.toArray,pt J] E (.bool (r)):=by
 refine eg func238 z ntmps238 z λk m=>?_;obtain ⟨_,_,rfl,rfl,_⟩:=N;refine uc 2 k z λk=>AW m k z z z z z z λ_ _ a k m e D=>oE h λ_ E h=>gl 9 [bF m 0 D z,pF (r:=[]) (A.at (m.a00 A.lt1) 1 1 z z z)] k z λk=>cC k m call91 z (BA E) λ_ e a k m=>pN 2 k z λa k=>bT h k 10 z (λh k=>?_) λh k=>?_
 · refine ul 19 k z λk=>fS h k m z z
 refine oE h λ_ E h=>gl 4 [bF m 0 D z,pF (r:=[]) (A.at (m.a00 A.lt1) 2 1 z z z)] k z λk=>cC k m call91 z (BA E) λ_ e a k m=>pN 3 k z λa k=>bT h k 18 z (λh k=>?_) λh k=>?_
 · refine ul 11 k z λk=>fS h k m z z
 refine oE h λ_ E h=>gl 4 [bF m 0 D z,pF (r:=[]) (A.at (m.a00 A.lt1) 3 1 z z z)] k z λk=>cC k m call91 z (BA E) λ_ e a k m=>ul 6 k z λk=>fS h k m z z
theorem MY {fu D A L J Q M r} (h:EI fu A L=some r) (E:rd D Q [J] A) (Ap:WB Tryz.prog D M L):cS 263 [J,M] D (I r):=by
 refine eg func263 z ntmps263 z λk m=>?_;obtain ⟨O,N,rfl,V,Y⟩:=Ap;refine gc 14 [lF E] k z λk=>lG (λn a w=>∃ M,K 19 [(0,J),(1,(.func (.func O) #[] N.toArray)),(7,I (A.length:Int)),(8,I M)] a∧St [] D w []∧BC fu A L n M=some r) ?_ fu ?_
 · rintro _ a _ ⟨M,k,m,h⟩;refine uJ 6 h k z (λh k=>?_) λh k=>?_
   · refine oE h λ_ A h=>gc 16 [iF E A] k z λk=>?_;obtain ⟨_,_,_,U,e,T⟩:=AR E (AG A).2.2;obtain ⟨_,_,rfl,rfl,A⟩:=U;refine sv k z (DV dl (e.agr (m.a00 (Enc.rd_lt E)) T) z k z z) λa k=>oE h λ_ D h=>UA k V z z z z z z (Y _ _ _ _ m.ext ⟨_,_,z,(oH (m.r A))⟩ D) λ_ _ Z=>?_;obtain ⟨rfl,e⟩:=Z;refine ⟨_,z,λa k=>?_⟩;have m:=m.step e;refine lJ 2 h k z (λh k=>?_) λh k=>?_
     · refine uc 12 k z λk=>fS h k m z z
     exact uc 8 k z λk=>⟨_,k.p z,m.f z,h⟩
   refine uc 11 k z λk=>fS h k m z z
 exact ⟨_,k.p z,m.f z,h⟩
theorem LK {fu A E L D M J r} (h:CR fu E L=some r) (N:rd A M [D] E) (O:WB Tryz.prog A J L):cS 237 [D,J] A (.bool (r)):=by
 refine eg func237 z ntmps237 z λk m=>?_;obtain ⟨_,_,rfl,A,E⟩:=O;refine oE h λ_ D h=>uc 9 k z λk=>cC k m call263 z (MY D (m.r N) ⟨_,_,z,A,λw A D r e=>E w A D r (m.ext.trans e AD)⟩) λ_ e a k m=>ul 5 k z λk=>fS h k m z z
theorem cf {fu J E M D Q r} (h:PF fu E M=some r) (N:rd J Q [D] M):cS 182 [.agg (Flat.e (E)).toArray,D] J (.bool (r)):=by
 refine eg func182 z ntmps182 z λk m=>uc 2 k z λk=>AW m k z z z z z z λD _ a k m e L=>oE h λ_ E h=>gl 6 [bA m 0 L z] k z λk=>cC k m call130 z (R6 E) λ_ e a k m=>pN 1 k z λa k=>bT h k 7 z (λh k=>?_) λh k=>?_
 · refine pN 2 k z λa k=>oE h λ_ E h=>cC k m call237 z (LK E (m.r N) ⟨238,[pt D],z,call238,λw _ _ r e A O=>by obtain ⟨_,_,rfl,A⟩:=A; have m:=m.step e; exact aI fu _ _ A (m.y L 0 z) O⟩) λ_ e a k m=>ul 6 k z λk=>fS h k m z z
 refine ul 9 k z λk=>fS h k m z z
theorem dX {fu U p1 V v3 F4 r} (h:R8 fu p1 V=some r) (Al:rd U F4 [v3] V):cL 111 [.agg (Flat.e (p1)).toArray,v3] U r:=by
 refine eg func111 z ntmps111 z λk m=>uc 2 k z λk=>AW m k z z z z z z λN Y a k m e Bl=>oE h λ_ Ft h=>gl 8 [bA m 0 Bl z] k z λk=>cC k m call182 z (cf Ft (m.r Al)) λ_ e a k m=>lJ 3 h k z (λh k=>?_) λh k=>?_
 · refine uc 7 k z λk=>?_;cases h;exact C5 k z (RV.tmp k z) ⟨_,[],z,m.ext,(A0 _),AD⟩
 refine uc 4 k z λk=>sB X8 m k z (by exact fN) λ_ _ _ a k m e Fm=>?_;have Dt:=QP (α:=Layer) Fm;refine gl 12 [lF Al] k z λk=>lG (λn a w=>∃ Ah Az Ak Bc T,K 102 [(2,pt N),(5,Az),(15,v3),(16,I (V.length:Int)),(17,I T)] a∧St [] U w [([N],Y),(Ak,Bc)]∧ow Bc Ak [Az] Ah∧CM fu p1 V n Ah T=some r) ?_ fu ?_
 · rintro Bp a _ ⟨Ah,Az,Ak,Bc,T,k,m,O,h⟩;refine uJ 6 h k z (λh k=>?_) λh k=>?_
   · refine uc 2 k z λk=>cg (λa w=>∃ Bd Av Ba Ay,K 102 [(2,pt N),(5,Av),(15,v3),(16,I (V.length:Int)),(17,I T)] a∧St [] U w [([N],Y),(Ba,Ay)]∧ow Ay Ba [Av] Bd∧TI fu (CM fu p1 V Bp) T Bd=some r) ?_ ?_
     · rintro a _ ⟨Bd,Av,Ba,Ay,k,m,Cu,h⟩;exact uc 5 k z λk=>⟨_,_,_,_,_,k.p z,m.f z,Cu,h⟩
     refine oE h λE Bv h=>gc 5 [iF Al Bv] k z λk=>?_;obtain ⟨_,_,_,Co,Ek,Cx⟩:=AR Al (AG Bv).2.2;obtain ⟨_,_,rfl,rfl,El⟩:=Co;refine sv k z (DV dl (Ek.agr (m.a00 (Enc.rd_lt Al)) Cx) z k z z) λa k=>AP m k zeroValue145 z z z z z λAo _ a k m e Es=>pN 1 k z λa k=>sT sizeOf145 m 0 Es 0 k z (AH (A5 El) (AH z (AH z (AH z (AH z DS))))) λAr a k e m At=>gl 10 [lF (Enc.ow_rd O)] k z λk=>cg (λa w=>∃ Bg Ax Bk Bn Be,K 102 [(2,pt N),(5,Ax),(6,I T),(7,pt Ao),(8,I Be),(15,v3),(16,I (V.length:Int)),(17,I T)] a∧St [] U w [([N],Y),([Ao],Ar),(Bk,Bn)]∧ow Bn Bk [Ax] Bg∧D5 fu (CM fu p1 V Bp) T E Bg Be=some r) ?_ ?_
     · rintro a _ ⟨Bg,Ax,Bk,Bn,Be,k,m,Bf,h⟩;refine oE h λD Q h=>gc 14 [iF (Enc.ow_rd Bf) Q] k z λk=>?_;obtain ⟨_,_,_,Ex,Ch,Dl⟩:=AR (Enc.ow_rd Bf) (AG Q).2.2;obtain ⟨Cp,_,rfl,rfl,_⟩:=Ex;refine gl 2 [pF ((Ch.agr (m.a 2 z) Dl).fld 0 1 (Nat.le_of_ble_eq_true z))] k z λk=>sB AV m k z (by exact fC z fN) λBb Aw _ a k m e V=>?_;have Dx:=AO V ([T]:List Int) z z z;obtain ⟨_,_,m,Gq,Ei⟩:=m.opn 3 z Bf Q Ch z (M':=[([Bb],Aw),([N],Y),([Ao],Ar)]) z;obtain ⟨Dz,_,Gb,rfl,V,_⟩:=Ei;obtain rfl:Cp=Dz:=by simpa using Gb
       refine oE h λL T h=>BX T AV z m 1 V (News.rd (m.q Dx 2 z)) z z k z z z z z z z λV Fc Em a k e m T=>ul 2 k z λk=>Tv (α:=Layer) (sz:=4) (cs':=[V,I D.fD,I D.fH,I D.fQ]) sizeOf64 m 0 Gq 0 k (CK (Enc.ow_rd T)) (A5 (Enc.ow_rd T)) z z z z z z z z z z λ_ a k e m Ct=>?_;obtain ⟨Ca,m,Aq⟩:=(m.sl [0,1,2,3,4] z).cls Ct (show ow Em Fc [V,I D.fD,I D.fH,I D.fQ] ((⟨L,D.fD,D.fH,D.fQ⟩:Layer):Layer) from ⟨_,_,z,z,T,(m.ndF 1 z)⟩);refine ul 3 k z λk=>eZ (Ca) ip m z λBt J=>?_;have m:=J;have s:=Ext.refl ((Ca):List Nat) Bt;refine dM [0] 1 z k z s λa k=>dT k 1 z z s (λw s=>KT k z z) λa k=>dF k 2 eO z s λa k=>?_;obtain ⟨_,_,_,Gh,_,_⟩:=AR (Enc.ow_rd Aq) (AG (DI (⟨L,D.fD,D.fH,D.fQ⟩:Layer) Q)).2.2;obtain ⟨_,_,rfl,rfl,_⟩:=Gh;refine dF k 4 ZZ z s λa k=>?_;obtain ⟨_,_,_,Dr,_,_⟩:=AR (Enc.ow_rd Aq) (AG (DI (⟨L,D.fD,D.fH,D.fQ⟩:Layer) Q)).2.2;obtain ⟨_,_,rfl,rfl,_⟩:=Dr;refine dT k 5 z z s (λw s=>A9 GP (r:=[]) (At.at (J.az 3 0 z z z s) 2 1 z z z) k z z) λa k=>?_;obtain ⟨_,_,_,Ew,_,_⟩:=AR (Enc.ow_rd Aq) (AG (DI (⟨L,D.fD,D.fH,D.fQ⟩:Layer) Q)).2.2;obtain ⟨_,_,rfl,rfl,_⟩:=Ew;refine dG 3 z ?_;obtain ⟨_,_,_,Dh,Bu,Eh⟩:=AR (Enc.ow_rd Aq) (AG (DI (⟨L,D.fD,D.fH,D.fQ⟩:Layer) Q)).2.2;obtain ⟨Bh,_,rfl,rfl,_⟩:=Dh;refine gl 1 [pF ((Bu.agr (m.a 0 z) Eh).fld 1 1 (Nat.le_of_ble_eq_true z))] k z λk=>wpList_nil ⟨s,?_⟩;refine dM [6] 1 z k z s λa k=>dT k 7 z z s (λw s=>KT k z z) λa k=>dF k 8 eO z s λa k=>dG 9 z ?_;obtain ⟨_,Fu,m,Gv,Fk,Cl,_⟩:=m.opnS 0 z Aq (DI (⟨L,D.fD,D.fH,D.fQ⟩:Layer) Q) Bu z (M':=[([Bb],Aw),([N],Y),([Ao],Ar)]) z;obtain ⟨Eo,_,Ef,rfl,V,_⟩:=Fk;obtain rfl:Bh=Eo:=by simpa using Ef
       refine TQ (α:=Layer) (sz:=4) (cs':=[Bh,I (AK (((⟨L,D.fD,D.fH,D.fQ⟩:Layer).fD)+E.fD)),I ((⟨L,D.fD,D.fH,D.fQ⟩:Layer).fH),I ((⟨L,D.fD,D.fH,D.fQ⟩:Layer).fQ)]) sizeOf3 m 0 Gv 1 k z z z z z z z z z (AH z DS) z z λ_ a k e m Ge=>oE h λA T h=>?_;have Gg:=Option.some.inj T;obtain ⟨T,m,Z⟩:=(m.sl [0,1,2,3,4] z).cls Ge (show ow Bt Fu [Bh,I (AK (((⟨L,D.fD,D.fH,D.fQ⟩:Layer).fD)+E.fD)),I ((⟨L,D.fD,D.fH,D.fQ⟩:Layer).fH),I ((⟨L,D.fD,D.fH,D.fQ⟩:Layer).fQ)] A from Gg ▸ ⟨_,_,z,z,V,(m.ndF 1 z)⟩);refine oE h λ_ V h=>?_;have Fa:=Option.some.inj V;have M:=DI A (DI (⟨L,D.fD,D.fH,D.fQ⟩:Layer) Q);rw [Fa] at Z M;refine nt (λy hy=>Or.inl (Cl y hy)) s e λs=>dD ?_;refine (AF ?_);refine uc 1 k z λk=>eZ (T) ip m z λBx J=>?_;have m:=J;have s:=Ext.refl ((T):List Nat) Bx;refine dM [0,1] 2 z k z s λa k=>dT k 2 z z s (λw s=>KT k z z) λa k=>dF k 3 ZO z s λa k=>?_;obtain ⟨_,_,_,Ev,_,_⟩:=AR (Enc.ow_rd Z) (AG M).2.2;obtain ⟨_,_,rfl,rfl,_⟩:=Ev;refine dF k 5 ZR z s λa k=>?_;obtain ⟨_,_,_,Ga,_,_⟩:=AR (Enc.ow_rd Z) (AG M).2.2;obtain ⟨_,_,rfl,rfl,_⟩:=Ga;refine dT k 6 z z s (λw s=>A9 GP (r:=[]) (At.at (J.az 3 0 z z z s) 3 1 z z z) k z z) λa k=>?_;obtain ⟨_,_,_,Fv,_,_⟩:=AR (Enc.ow_rd Z) (AG M).2.2;obtain ⟨_,_,rfl,rfl,_⟩:=Fv;refine dG 4 z ?_;obtain ⟨_,_,_,Fl,Cb,Gk⟩:=AR (Enc.ow_rd Z) (AG M).2.2;obtain ⟨Bm,_,rfl,rfl,_⟩:=Fl;refine gl 1 [pF ((Cb.agr (m.a 0 z) Gk).fld 2 1 (Nat.le_of_ble_eq_true z))] k z λk=>wpList_nil ⟨s,?_⟩;refine dM [7] 1 z k z s λa k=>dT k 8 z z s (λw s=>KT k z z) λa k=>dF k 9 ZO z s λa k=>dG 10 z ?_;obtain ⟨_,Dv,m,Ey,Gc,Cq,_⟩:=m.opnS 0 z Z M Cb z (M':=[([Bb],Aw),([N],Y),([Ao],Ar)]) z;obtain ⟨De,_,Di,rfl,L,_⟩:=Gc;obtain rfl:Bm=De:=by simpa using Di
       refine TQ (α:=Layer) (sz:=4) (cs':=[Bm,I A.fD,I (if E.fH>A.fH then E.fH else A.fH),I A.fQ]) sizeOf3 m 0 Ey 2 k z z z z z z z z z (AH z DS) z z λ_ a k e m Q=>?_;obtain ⟨D,m,Ap⟩:=(m.sl [0,1,2,3,4] z).cls Q (show ow Bx Dv [Bm,I A.fD,I (if E.fH>A.fH then E.fH else A.fH),I A.fQ] ((⟨A.fM,A.fD,if E.fH>A.fH then E.fH else A.fH,A.fQ⟩:Layer):Layer) from ⟨_,_,z,z,L,(m.ndF 1 z)⟩);refine nt (λy hy=>Or.inl (Cq y hy)) s e λs=>dD ((AF ?_));refine eZ (D) ip m z λCg J=>?_;have m:=J;have s:=Ext.refl ((D):List Nat) Cg;refine dM [0] 1 z k z s λa k=>dT k 1 z z s (λw s=>KT k z z) λa k=>dF k 2 ZP z s λa k=>?_;obtain ⟨_,_,_,Fh,_,_⟩:=AR (Enc.ow_rd Ap) (AG (DI (⟨A.fM,A.fD,if E.fH>A.fH then E.fH else A.fH,A.fQ⟩:Layer) M)).2.2;obtain ⟨_,_,rfl,rfl,_⟩:=Fh;refine dF k 4 ZJ z s λa k=>?_;obtain ⟨_,_,_,Fg,_,_⟩:=AR (Enc.ow_rd Ap) (AG (DI (⟨A.fM,A.fD,if E.fH>A.fH then E.fH else A.fH,A.fQ⟩:Layer) M)).2.2;obtain ⟨_,_,rfl,rfl,_⟩:=Fg;refine dT k 5 z z s (λw s=>A9 GP (r:=[]) (At.at (J.az 3 0 z z z s) 4 1 z z z) k z z) λa k=>?_;obtain ⟨_,_,_,Eg,_,_⟩:=AR (Enc.ow_rd Ap) (AG (DI (⟨A.fM,A.fD,if E.fH>A.fH then E.fH else A.fH,A.fQ⟩:Layer) M)).2.2;obtain ⟨_,_,rfl,rfl,_⟩:=Eg;refine dG 3 z ?_;obtain ⟨_,_,_,Ck,Cd,Ds⟩:=AR (Enc.ow_rd Ap) (AG (DI (⟨A.fM,A.fD,if E.fH>A.fH then E.fH else A.fH,A.fQ⟩:Layer) M)).2.2;obtain ⟨Bi,_,rfl,rfl,_⟩:=Ck;refine gl 1 [pF ((Cd.agr (m.a 0 z) Ds).fld 3 1 (Nat.le_of_ble_eq_true z))] k z λk=>wpList_nil ⟨s,?_⟩;refine dM [6] 1 z k z s λa k=>dT k 7 z z s (λw s=>KT k z z) λa k=>dF k 8 ZP z s λa k=>dG 9 z ?_;obtain ⟨_,Ez,m,Gl,Dk,Da,_⟩:=m.opnS 0 z Ap (DI (⟨A.fM,A.fD,if E.fH>A.fH then E.fH else A.fH,A.fQ⟩:Layer) M) Cd z (M':=[([Bb],Aw),([N],Y),([Ao],Ar)]) z;obtain ⟨Cy,_,Eu,rfl,T,_⟩:=Dk;obtain rfl:Bi=Cy:=by simpa using Eu
       refine TQ (α:=Layer) (sz:=4) (cs':=[Bi,I ((⟨A.fM,A.fD,if E.fH>A.fH then E.fH else A.fH,A.fQ⟩:Layer).fD),I ((⟨A.fM,A.fD,if E.fH>A.fH then E.fH else A.fH,A.fQ⟩:Layer).fH),I (AK (((⟨A.fM,A.fD,if E.fH>A.fH then E.fH else A.fH,A.fQ⟩:Layer).fQ)+E.fQ))]) sizeOf3 m 0 Gl 3 k z z z z z z z z z (AH z DS) z z λ_ a k e m N=>oE h λD L h=>?_;have Q:=Option.some.inj L;obtain ⟨_,m,L⟩:=(m.sl [0,1,2,3,4] z).cls N (show ow Cg Ez [Bi,I ((⟨A.fM,A.fD,if E.fH>A.fH then E.fH else A.fH,A.fQ⟩:Layer).fD),I ((⟨A.fM,A.fD,if E.fH>A.fH then E.fH else A.fH,A.fQ⟩:Layer).fH),I (AK (((⟨A.fM,A.fD,if E.fH>A.fH then E.fH else A.fH,A.fQ⟩:Layer).fQ)+E.fQ))] D from Q ▸ ⟨_,_,z,z,T,(m.ndF 1 z)⟩);refine oE h λ_ N h=>?_;have Q:=Option.some.inj N;have N:=DI D (DI (⟨A.fM,A.fD,if E.fH>A.fH then E.fH else A.fH,A.fQ⟩:Layer) M);rw [Q] at L N;refine nt (λy hy=>Or.inl (Da y hy)) s e λs=>dD ?_;refine (ue 2 k z λk=>?_);exact ⟨_,_,_,_,k.p z,m.sl [2,0] z,L,h⟩
     refine uc 1 k z λk=>dI [] m z λJ m s=>dM [0,1,2] 3 z k z s λa k=>SS (decide ((AK ((Ah.length:Int) - 1))<0)) (λA=>?_) (λA=>?_)
     · have h:=WD A h;refine rB k 27 z A λk=>dM [3,4,5,6,7,8,9,10,11,12,13,14,15,16,17,18,19,20,21,22,23,24,25,26,27] 25 z k z s λa k=>dD ?_;refine (AF ?_);refine uc 4 k z λk=>sv k z (AN aN k (cs:=#[.slice none 0 0,I 0,I 0,I 0]) (ps:=[]) z z AQ) λa k=>sB X8 m k z (by exact fC z fN) λ_ _ _ a k m e D=>oE h λ_ M h=>?_;have m:=m.addNil (u:=U);have E:ow _ ([]) [.slice none 0 0,I 0,I 0,I 0] ((⟨[],0,0,0⟩:Layer):Layer):=(m.here λw=>⟨_,_,z,z,(A0 _),AD⟩)
       have L:=News.box D (m.a 1 z) AD (m:=1);have D:=m.a 4 z;have m:=m.sl [4,0,1,2,3] z;have m:=m.join2;exact D6 (F:=Ak) (G:=([])) M X8 z m O D L E (Agr.refl _ _) k z z z z z z λ_ _ _ a k e m D=>ul 9 k z λk=>⟨_,_,_,_,_,k.p z,m.sl [3,2,0] z,D,h⟩
     have h:=WG A h;refine rB k 27 z A λk=>oE h λ_ Bj h=>dr [3,4,5,6] 4 [iF (Enc.ow_rd O) Bj] k z s λk=>?_;obtain ⟨_,_,_,Dc,Br,Bw⟩:=AR (Enc.ow_rd O) (AG Bj).2.2;obtain ⟨_,_,rfl,rfl,_⟩:=Dc;refine dT k 7 z z s (λw s=>A9 GP ((Br.agr ((J.step s).a 2 z) Bw).fld 1 1 (Nat.le_of_ble_eq_true z)) k z z) λa k=>dr [8,9,10,11,12,13,14,15] 8 [bF J 0 At z,bF J 1 Bl z] k z s λk=>bT h k 40 z (λh k=>?_) λh k=>?_
     · refine dM [16,17,18,19,20,21,22,23,24,25,26,27] 12 z k z s λa k=>dD ?_;refine (AF ?_);refine uc 4 k z λk=>sv k z (AN aN k (cs:=#[.slice none 0 0,I 0,I 0,I 0]) (ps:=[]) z z AQ) λa k=>sB X8 m k z (by exact fC z fN) λ_ _ _ a k m e D=>oE h λ_ L h=>?_;have m:=m.addNil (u:=U);have A:ow _ ([]) [.slice none 0 0,I 0,I 0,I 0] ((⟨[],0,0,0⟩:Layer):Layer):=(m.here λw=>⟨_,_,z,z,(A0 _),AD⟩)
       have E:=News.box D (m.a 1 z) AD (m:=1);have D:=m.a 4 z;have m:=m.sl [4,0,1,2,3] z;have m:=m.join2;exact D6 (F:=Ak) (G:=([])) L X8 z m O D E A (Agr.refl _ _) k z z z z z z λ_ _ _ a k e m A=>ul 9 k z λk=>⟨_,_,_,_,_,k.p z,m.sl [3,2,0] z,A,h⟩
     refine oE h λ_ _ h=>dr [16,17,18,19] 4 [iF (Enc.ow_rd O) Bj] k z s λk=>dT k 20 z z s (λw s=>A9 GP ((Br.agr ((J.step s).a 2 z) Bw).fld 3 1 (Nat.le_of_ble_eq_true z)) k z z) λa k=>dr [21,22,23,24,25,26,27] 7 [bF J 0 At z,bF J 1 Bl z] k z s λk=>dD ?_;refine (AF ?_);refine cJ h k z (λh=>?_) λh=>?_
     · refine uc 3 k z λk=>sv k z (AN aN k (cs:=#[.slice none 0 0,I 0,I 0,I 0]) (ps:=[]) z z AQ) λa k=>sB X8 m k z (by exact fC z fN) λ_ _ _ a k m e D=>oE h λ_ A h=>?_;have m:=m.addNil (u:=U);have E:ow _ ([]) [.slice none 0 0,I 0,I 0,I 0] ((⟨[],0,0,0⟩:Layer):Layer):=(m.here λw=>⟨_,_,z,z,(A0 _),AD⟩)
       have J:=News.box D (m.a 1 z) AD (m:=1);have D:=m.a 4 z;have m:=m.sl [4,0,1,2,3] z;have m:=m.join2;exact D6 (F:=Ak) (G:=([])) A X8 z m O D J E (Agr.refl _ _) k z z z z z z λ_ _ _ a k e m A=>ul 9 k z λk=>⟨_,_,_,_,_,k.p z,m.sl [3,2,0] z,A,h⟩
     exact uc 2 k z λk=>⟨_,_,_,_,_,k.p z,m.sl [1,0,2] z,O,h⟩
   exact uc 12 k z λk=>fL h k m O 1 z z
 exact ⟨_,_,_,_,_,k.p z,m.sl [1,0] z,Dt,h⟩
theorem bd (fu) {E} (M D) {L J} (N:rd E J L M) {J} (A:bx E J [I D.fW,I D.fD,I D.fH,I D.fQ] 32) {r} (h:U1 fu M D=some r):cS 240 [.agg L.toArray,pt J] E (.bool (r)):=by
 refine eg func240 z ntmps240 z λk m=>?_;obtain ⟨_,_,rfl,rfl,_⟩:=N;refine uc 2 k z λk=>AW m k z z z z z z λ_ _ a k m e D=>oE h λ_ E h=>gl 9 [bF m 0 D z,pF (r:=[]) (A.at (m.a00 A.lt1) 1 1 z z z)] k z λk=>cC k m call91 z (BA E) λ_ e a k m=>pN 2 k z λa k=>bT h k 10 z (λh k=>?_) λh k=>?_
 · refine ul 19 k z λk=>fS h k m z z
 refine oE h λ_ E h=>gl 4 [bF m 0 D z,pF (r:=[]) (A.at (m.a00 A.lt1) 2 1 z z z)] k z λk=>cC k m call91 z (BA E) λ_ e a k m=>pN 3 k z λa k=>bT h k 18 z (λh k=>?_) λh k=>?_
 · refine ul 11 k z λk=>fS h k m z z
 refine oE h λ_ E h=>gl 4 [bF m 0 D z,pF (r:=[]) (A.at (m.a00 A.lt1) 3 1 z z z)] k z λk=>cC k m call91 z (BA E) λ_ e a k m=>ul 6 k z λk=>fS h k m z z
theorem M8 {fu D A L J Q M r} (h:EJ fu A L=some r) (E:rd D Q [J] A) (Ap:WB Tryz.prog D M L):cS 264 [J,M] D (I r):=by
 refine eg func264 z ntmps264 z λk m=>?_;obtain ⟨O,N,rfl,V,Y⟩:=Ap;refine gc 14 [lF E] k z λk=>lG (λn a w=>∃ M,K 19 [(0,J),(1,(.func (.func O) #[] N.toArray)),(7,I (A.length:Int)),(8,I M)] a∧St [] D w []∧BB fu A L n M=some r) ?_ fu ?_
 · rintro _ a _ ⟨M,k,m,h⟩;refine uJ 6 h k z (λh k=>?_) λh k=>?_
   · refine oE h λ_ A h=>gc 16 [iF E A] k z λk=>?_;obtain ⟨_,_,_,U,e,T⟩:=AR E (AG A).2.2;obtain ⟨_,_,rfl,rfl,A⟩:=U;refine sv k z (DV lO (e.agr (m.a00 (Enc.rd_lt E)) T) z k z z) λa k=>oE h λ_ D h=>UA k V z z z z z z (Y _ _ _ _ m.ext ⟨_,_,z,(uq (m.r A))⟩ D) λ_ _ Z=>?_;obtain ⟨rfl,e⟩:=Z;refine ⟨_,z,λa k=>?_⟩;have m:=m.step e;refine lJ 2 h k z (λh k=>?_) λh k=>?_
     · refine uc 12 k z λk=>fS h k m z z
     exact uc 8 k z λk=>⟨_,k.p z,m.f z,h⟩
   refine uc 11 k z λk=>fS h k m z z
 exact ⟨_,k.p z,m.f z,h⟩
theorem LI {fu A E L D M J r} (h:CQ fu E L=some r) (N:rd A M [D] E) (O:WB Tryz.prog A J L):cS 239 [D,J] A (.bool (r)):=by
 refine eg func239 z ntmps239 z λk m=>?_;obtain ⟨_,_,rfl,A,E⟩:=O;refine oE h λ_ D h=>uc 9 k z λk=>cC k m call264 z (M8 D (m.r N) ⟨_,_,z,A,λw A D r e=>E w A D r (m.ext.trans e AD)⟩) λ_ e a k m=>ul 5 k z λk=>fS h k m z z
theorem dE {fu J E M D Q r} (h:R7 fu E M=some r) (N:rd J Q [D] M):cS 183 [.agg (Flat.e (E)).toArray,D] J (.bool (r)):=by
 refine eg func183 z ntmps183 z λk m=>uc 2 k z λk=>AW m k z z z z z z λD _ a k m e L=>oE h λ_ E h=>gl 6 [bA m 0 L z] k z λk=>cC k m call130 z (R6 E) λ_ e a k m=>pN 1 k z λa k=>bT h k 7 z (λh k=>?_) λh k=>?_
 · refine pN 2 k z λa k=>oE h λ_ E h=>cC k m call239 z (LI E (m.r N) ⟨240,[pt D],z,call240,λw _ _ r e A O=>by obtain ⟨_,_,rfl,A⟩:=A; have m:=m.step e; exact bd fu _ _ A (m.y L 0 z) O⟩) λ_ e a k m=>ul 6 k z λk=>fS h k m z z
 refine ul 9 k z λk=>fS h k m z z
theorem iw {fu Q p1 T v3 F4 r} (h:UW fu p1 T=some r) (Ak:rd Q F4 [v3] T):cL 112 [.agg (Flat.e (p1)).toArray,v3] Q r:=by
 refine eg func112 z ntmps112 z λk m=>uc 2 k z λk=>AW m k z z z z z z λO Y a k m e Bj=>oE h λ_ Ez h=>gl 8 [bA m 0 Bj z] k z λk=>cC k m call183 z (dE Ez (m.r Ak)) λ_ e a k m=>lJ 3 h k z (λh k=>?_) λh k=>?_
 · refine uc 7 k z λk=>?_;cases h;exact C5 k z (RV.tmp k z) ⟨_,[],z,m.ext,(A0 _),AD⟩
 refine uc 4 k z λk=>sB X5 m k z (by exact fN) λ_ _ _ a k m e Ev=>?_;have Dh:=QP (α:=Load) Ev;refine gl 12 [lF Ak] k z λk=>lG (λn a w=>∃ Ag Ax Z As J,K 92 [(2,pt O),(5,Ax),(15,v3),(16,I (T.length:Int)),(17,I J)] a∧St [] Q w [([O],Y),(Z,As)]∧ow As Z [Ax] Ag∧C7 fu p1 T n Ag J=some r) ?_ fu ?_
 · rintro Br a _ ⟨Ag,Ax,Z,As,J,k,m,N,h⟩;refine uJ 6 h k z (λh k=>?_) λh k=>?_
   · refine uc 2 k z λk=>cg (λa w=>∃ At Bb Ay Av,K 92 [(2,pt O),(5,Bb),(15,v3),(16,I (T.length:Int)),(17,I J)] a∧St [] Q w [([O],Y),(Ay,Av)]∧ow Av Ay [Bb] At∧TY fu (C7 fu p1 T Br) J At=some r) ?_ ?_
     · rintro a _ ⟨At,Bb,Ay,Av,k,m,Fp,h⟩;exact uc 5 k z λk=>⟨_,_,_,_,_,k.p z,m.f z,Fp,h⟩
     refine oE h λAc Bs h=>gc 5 [iF Ak Bs] k z λk=>?_;obtain ⟨_,_,_,Dg,Ej,Cy⟩:=AR Ak (AG Bs).2.2;obtain ⟨_,_,rfl,rfl,Dn⟩:=Dg;refine sv k z (DV lO (Ej.agr (m.a00 (Enc.rd_lt Ak)) Cy) z k z z) λa k=>AP m k zeroValue143 z z z z z λAq _ a k m e Ff=>pN 1 k z λa k=>sT sizeOf143 m 0 Ff 0 k z (AH (A5 Dn) (AH z (AH z (AH z DS)))) λAw a k e m Az=>gl 10 [lF (Enc.ow_rd N)] k z λk=>cg (λa w=>∃ Bi Ba Bg Bd Au,K 92 [(2,pt O),(5,Ba),(6,I J),(7,pt Aq),(8,I Au),(15,v3),(16,I (T.length:Int)),(17,I J)] a∧St [] Q w [([O],Y),([Aq],Aw),(Bg,Bd)]∧ow Bd Bg [Ba] Bi∧EQ fu (C7 fu p1 T Br) J Ac Bi Au=some r) ?_ ?_
     · rintro a _ ⟨Bi,Ba,Bg,Bd,Au,k,m,Bk,h⟩;refine oE h λA L h=>gc 14 [iF (Enc.ow_rd Bk) L] k z λk=>?_;obtain ⟨_,_,_,Ea,Bu,Fk⟩:=AR (Enc.ow_rd Bk) (AG L).2.2;obtain ⟨Fe,_,rfl,rfl,_⟩:=Ea;refine gl 2 [pF ((Bu.agr (m.a 2 z) Fk).fld 0 1 (Nat.le_of_ble_eq_true z))] k z λk=>sB AV m k z (by exact fC z fN) λBm Bl _ a k m e T=>?_;have Dr:=AO T ([J]:List Int) z z z;obtain ⟨_,_,m,Fb,Ck⟩:=m.opn 3 z Bk L Bu z (M':=[([Bm],Bl),([O],Y),([Aq],Aw)]) z;obtain ⟨Ew,_,El,rfl,J,_⟩:=Ck;obtain rfl:Fe=Ew:=by simpa using El
       refine oE h λE T h=>BX T AV z m 1 J (News.rd (m.q Dr 2 z)) z z k z z z z z z z λT Df Dw a k e m J=>ul 2 k z λk=>Tv (α:=Load) (sz:=3) (cs':=[T,I A.fH,I A.fQ]) sizeOf64 m 0 Fb 0 k (CK (Enc.ow_rd J)) (A5 (Enc.ow_rd J)) z z z z z z z z z z λ_ a k e m Dy=>?_;obtain ⟨Bp,m,Ao⟩:=(m.sl [0,1,2,3,4] z).cls Dy (show ow Dw Df [T,I A.fH,I A.fQ] ((⟨E,A.fH,A.fQ⟩:Load):Load) from ⟨_,_,z,z,J,(m.ndF 1 z)⟩);refine ul 3 k z λk=>eZ (Bp) ip m z λBq D=>?_;have m:=D;have s:=Ext.refl ((Bp):List Nat) Bq;refine dM [0] 1 z k z s λa k=>dT k 1 z z s (λw s=>KT k z z) λa k=>dF k 2 eu z s λa k=>?_;obtain ⟨_,_,_,Dd,_,_⟩:=AR (Enc.ow_rd Ao) (AG (DI (⟨E,A.fH,A.fQ⟩:Load) L)).2.2;obtain ⟨_,_,rfl,rfl,_⟩:=Dd;refine dF k 4 ZO z s λa k=>?_;obtain ⟨_,_,_,Cs,_,_⟩:=AR (Enc.ow_rd Ao) (AG (DI (⟨E,A.fH,A.fQ⟩:Load) L)).2.2;obtain ⟨_,_,rfl,rfl,_⟩:=Cs;refine dT k 5 z z s (λw s=>A9 GP (r:=[]) (Az.at (D.az 3 0 z z z s) 2 1 z z z) k z z) λa k=>?_;obtain ⟨_,_,_,Dc,_,_⟩:=AR (Enc.ow_rd Ao) (AG (DI (⟨E,A.fH,A.fQ⟩:Load) L)).2.2;obtain ⟨_,_,rfl,rfl,_⟩:=Dc;refine dG 3 z ?_;obtain ⟨_,_,_,Dz,Bv,Fd⟩:=AR (Enc.ow_rd Ao) (AG (DI (⟨E,A.fH,A.fQ⟩:Load) L)).2.2;obtain ⟨Bc,_,rfl,rfl,_⟩:=Dz;refine gl 1 [pF ((Bv.agr (m.a 0 z) Fd).fld 1 1 (Nat.le_of_ble_eq_true z))] k z λk=>wpList_nil ⟨s,?_⟩;refine dM [6] 1 z k z s λa k=>dT k 7 z z s (λw s=>KT k z z) λa k=>dF k 8 eu z s λa k=>dG 9 z ?_;obtain ⟨_,Cu,m,Cl,Dv,Fn,_⟩:=m.opnS 0 z Ao (DI (⟨E,A.fH,A.fQ⟩:Load) L) Bv z (M':=[([Bm],Bl),([O],Y),([Aq],Aw)]) z;obtain ⟨Co,_,Ct,rfl,Dq,_⟩:=Dv;obtain rfl:Bc=Co:=by simpa using Ct
       refine TQ (α:=Load) (sz:=3) (cs':=[Bc,I (AK (((⟨E,A.fH,A.fQ⟩:Load).fH)+Ac.fH)),I ((⟨E,A.fH,A.fQ⟩:Load).fQ)]) sizeOf3 m 0 Cl 1 k z z z z z z z z z (AH z DS) z z λ_ a k e m T=>oE h λM J h=>?_;have Ec:=Option.some.inj J;obtain ⟨J,m,V⟩:=(m.sl [0,1,2,3,4] z).cls T (show ow Bq Cu [Bc,I (AK (((⟨E,A.fH,A.fQ⟩:Load).fH)+Ac.fH)),I ((⟨E,A.fH,A.fQ⟩:Load).fQ)] M from Ec ▸ ⟨_,_,z,z,Dq,(m.ndF 1 z)⟩);refine oE h λ_ Fs h=>?_;have T:=Option.some.inj Fs;have U:=DI M (DI (⟨E,A.fH,A.fQ⟩:Load) L);rw [T] at V U;refine nt (λy hy=>Or.inl (Fn y hy)) s e λs=>dD ?_;refine (AF ?_);refine eZ (J) ip m z λBo D=>?_;have m:=D;have s:=Ext.refl ((J):List Nat) Bo;refine dM [0] 1 z k z s λa k=>dT k 1 z z s (λw s=>KT k z z) λa k=>dF k 2 eB z s λa k=>?_;obtain ⟨_,_,_,Fl,_,_⟩:=AR (Enc.ow_rd V) (AG U).2.2;obtain ⟨_,_,rfl,rfl,_⟩:=Fl;refine dF k 4 ZP z s λa k=>?_;obtain ⟨_,_,_,Eo,_,_⟩:=AR (Enc.ow_rd V) (AG U).2.2;obtain ⟨_,_,rfl,rfl,_⟩:=Eo;refine dT k 5 z z s (λw s=>A9 GP (r:=[]) (Az.at (D.az 3 0 z z z s) 3 1 z z z) k z z) λa k=>?_;obtain ⟨_,_,_,Fu,_,_⟩:=AR (Enc.ow_rd V) (AG U).2.2;obtain ⟨_,_,rfl,rfl,_⟩:=Fu;refine dG 3 z ?_;obtain ⟨_,_,_,De,Bx,Dj⟩:=AR (Enc.ow_rd V) (AG U).2.2;obtain ⟨Be,_,rfl,rfl,_⟩:=De;refine gl 1 [pF ((Bx.agr (m.a 0 z) Dj).fld 2 1 (Nat.le_of_ble_eq_true z))] k z λk=>wpList_nil ⟨s,?_⟩;refine dM [6] 1 z k z s λa k=>dT k 7 z z s (λw s=>KT k z z) λa k=>dF k 8 eB z s λa k=>dG 9 z ?_;obtain ⟨_,Ef,m,Cq,Fc,Dk,_⟩:=m.opnS 0 z V U Bx z (M':=[([Bm],Bl),([O],Y),([Aq],Aw)]) z;obtain ⟨Ep,_,Cg,rfl,E,_⟩:=Fc;obtain rfl:Be=Ep:=by simpa using Cg
       refine TQ (α:=Load) (sz:=3) (cs':=[Be,I M.fH,I (AK (M.fQ+Ac.fQ))]) sizeOf3 m 0 Cq 2 k z z z z z z z z z (AH z DS) z z λ_ a k e m J=>?_;obtain ⟨_,m,A⟩:=(m.sl [0,1,2,3,4] z).cls J (show ow Bo Ef [Be,I M.fH,I (AK (M.fQ+Ac.fQ))] ((⟨M.f0,M.fH,AK (M.fQ+Ac.fQ)⟩:Load):Load) from ⟨_,_,z,z,E,(m.ndF 1 z)⟩);refine nt (λy hy=>Or.inl (Dk y hy)) s e λs=>dD ((ue 2 k z λk=>?_));exact ⟨_,_,_,_,k.p z,m.sl [2,0] z,A,h⟩
     refine uc 1 k z λk=>dI [] m z λD m s=>dM [0,1,2] 3 z k z s λa k=>SS (decide ((AK ((Ag.length:Int) - 1))<0)) (λA=>?_) (λA=>?_)
     · have h:=WD A h;refine rB k 27 z A λk=>dM [3,4,5,6,7,8,9,10,11,12,13,14,15,16,17,18,19,20,21,22,23,24,25,26,27] 25 z k z s λa k=>dD ?_;refine (AF ?_);refine uc 4 k z λk=>sv k z (AN bP k (cs:=#[.slice none 0 0,I 0,I 0]) (ps:=[]) z z AQ) λa k=>sB X5 m k z (by exact fC z fN) λ_ _ _ a k m e E=>oE h λ_ L h=>?_;have m:=m.addNil (u:=Q);have M:ow _ ([]) [.slice none 0 0,I 0,I 0] ((⟨[],0,0⟩:Load):Load):=(m.here λw=>⟨_,_,z,z,(A0 _),AD⟩)
       have J:=News.box E (m.a 1 z) AD (m:=1);have E:=m.a 4 z;have m:=m.sl [4,0,1,2,3] z;have m:=m.join2;exact D6 (F:=Z) (G:=([])) L X5 z m N E J M (Agr.refl _ _) k z z z z z z λ_ _ _ a k e m E=>ul 9 k z λk=>⟨_,_,_,_,_,k.p z,m.sl [3,2,0] z,E,h⟩
     have h:=WG A h;refine rB k 27 z A λk=>oE h λ_ Bf h=>dr [3,4,5,6] 4 [iF (Enc.ow_rd N) Bf] k z s λk=>?_;obtain ⟨_,_,Gc,Et,Bt,Bz⟩:=AR (Enc.ow_rd N) (AG Bf).2.2;obtain ⟨_,_,rfl,rfl,_⟩:=Et;refine dT k 7 z z s (λw s=>A9 GP ((Bt.agr ((D.step s).a 2 z) Bz).fld 1 1 (Nat.le_of_ble_eq_true z)) k z z) λa k=>dr [8,9,10,11,12,13,14,15] 8 [bF D 0 Az z,bF D 1 Bj z] k z s λk=>bT h k 40 z (λh k=>?_) λh k=>?_
     · refine dM [16,17,18,19,20,21,22,23,24,25,26,27] 12 z k z s λa k=>dD ?_;refine (AF ?_);refine uc 4 k z λk=>sv k z (AN bP k (cs:=#[.slice none 0 0,I 0,I 0]) (ps:=[]) z z AQ) λa k=>sB X5 m k z (by exact fC z fN) λ_ _ _ a k m e A=>oE h λ_ E h=>?_;have m:=m.addNil (u:=Q);have L:ow _ ([]) [.slice none 0 0,I 0,I 0] ((⟨[],0,0⟩:Load):Load):=(m.here λw=>⟨_,_,z,z,(A0 _),AD⟩)
       have J:=News.box A (m.a 1 z) AD (m:=1);have A:=m.a 4 z;have m:=m.sl [4,0,1,2,3] z;have m:=m.join2;exact D6 (F:=Z) (G:=([])) E X5 z m N A J L (Agr.refl _ _) k z z z z z z λ_ _ _ a k e m A=>ul 9 k z λk=>⟨_,_,_,_,_,k.p z,m.sl [3,2,0] z,A,h⟩
     refine oE h λ_ _ h=>dr [16,17,18,19] 4 [iF (Enc.ow_rd N) Bf] k z s λk=>dT k 20 z z s (λw s=>A9 GP ((Bt.agr ((D.step s).a 2 z) Bz).fld 2 1 (Nat.le_of_ble_eq_true z)) k z z) λa k=>dr [21,22,23,24,25,26,27] 7 [bF D 0 Az z,bF D 1 Bj z] k z s λk=>dD ?_;refine (AF ?_);refine cJ h k z (λh=>?_) λh=>?_
     · refine uc 3 k z λk=>sv k z (AN bP k (cs:=#[.slice none 0 0,I 0,I 0]) (ps:=[]) z z AQ) λa k=>sB X5 m k z (by exact fC z fN) λ_ _ _ a k m e D=>oE h λ_ J h=>?_;have m:=m.addNil (u:=Q);have E:ow _ ([]) [.slice none 0 0,I 0,I 0] ((⟨[],0,0⟩:Load):Load):=(m.here λw=>⟨_,_,z,z,(A0 _),AD⟩)
       have A:=News.box D (m.a 1 z) AD (m:=1);have D:=m.a 4 z;have m:=m.sl [4,0,1,2,3] z;have m:=m.join2;exact D6 (F:=Z) (G:=([])) J X5 z m N D A E (Agr.refl _ _) k z z z z z z λ_ _ _ a k e m A=>ul 9 k z λk=>⟨_,_,_,_,_,k.p z,m.sl [3,2,0] z,A,h⟩
     exact uc 2 k z λk=>⟨_,_,_,_,_,k.p z,m.sl [1,0,2] z,N,h⟩
   exact uc 12 k z λk=>fL h k m N 1 z z
 exact ⟨_,_,_,_,_,k.p z,m.sl [1,0] z,Dh,h⟩
theorem g9 {fu T p1 D Q F4 r} (h:Pj fu p1 D=some r) (Y:rd T F4 [Q] D):cL 52 [.agg (Flat.e (p1)).toArray,Q] T r:=by
 refine eg func52 z ntmps52 z λk m=>uc 2 k z λk=>AW m k z z z z z z λ_ _ a k m e Bn=>oE h λ_ Ee h=>gl 8 [bA m 0 Bn z] k z λk=>cC k m call109 z (ZD Ee (m.r Y)) λ_ e a k m=>lJ 3 h k z (λh k=>?_) λh k=>?_
 · refine uc 7 k z λk=>?_;cases h;exact C5 k z (RV.tmp k z) ⟨_,[],z,m.ext,(A0 _),AD⟩
 refine oE h λJ Dr h=>gc 6 [bA m 0 Bn z] k z λk=>sL k m call110 z (gL Dr (m.r Y)) λBm Bg Aw Z k m=>oE h λL Cv h=>gl 7 [bA m 1 Bn z] k z λk=>sL k m call111 z (dX Cv (m.q Z 0 z)) λBo Bp Av V k m=>oE h λ_ Cy h=>gl 7 [lF Y] k z λk=>wB Cy XJ z z m k z z z z z z λ_ _ a _ k m e Cu=>oE h λM Ed h=>gl 8 [bA m 3 Bn z] k z λk=>sL k m call112 z (iw Ed (m.q V 1 z)) λBt Bj Ay At k m=>gl 5 [lF (Enc.ow_rd At)] k z λk=>lG (λn a w=>∃ Bl Bq Bc Bu A,K 102 [(1,Q),(5,Bg),(6,Bp),(7,Bq),(34,Bj),(35,I (M.length:Int)),(36,I A)] a∧St [] T w [(Aw,Bm),(Av,Bo),(Ay,Bt),(Bc,Bu)]∧ow Bu Bc [Bq] Bl∧B1 fu D J L M n Bl A=some r) ?_ fu ?_
 · rintro Bx a _ ⟨Bl,Bq,Bc,Bu,A,k,m,Cg,h⟩;refine uJ 6 h k z (λh k=>?_) λh k=>?_
   · refine oE h λU Cl h=>gc 8 [iF (Enc.ow_rd At) Cl] k z λk=>?_;obtain ⟨_,_,Dl,Dk,Dc,Cs⟩:=AR (Enc.ow_rd At) (AG Cl).2.2;obtain ⟨Bk,_,rfl,rfl,Bi⟩:=Dk;refine sv k z (DV wl (Dc.agr (m.a 2 z) Cs) z k z z) λa k=>AP m k zeroValue141 z z z z z λ_ _ a k m e Cw=>pN 1 k z λa k=>sT sizeOf141 m 0 Cw 0 k z (AH (A5 Bi) (AH z (AH z DS))) λ_ a k e m Da=>gl 16 [bF m 0 Da z,lF Bi] k z λk=>lG (λn a w=>∃ Au Be Ba Bb E O,K 102 [(1,Q),(5,Bg),(6,Bp),(7,Be),(8,I A),(10,I E),(34,Bj),(35,I (M.length:Int)),(36,I A),(42,Bk),(43,I (U.f0.length:Int)),(44,I O)] a∧St [] T w [(Aw,Bm),(Av,Bo),(Ay,Bt),(Ba,Bb)]∧ow Bb Ba [Be] Au∧C4 fu (B1 fu D J L M Bx) D J L A U n Au E O=some r) ?_ fu ?_
     · rintro Co a _ ⟨Au,Be,Ba,Bb,E,O,k,m,Ca,h⟩;refine uJ 6 h k z (λh k=>?_) λh k=>?_
       · refine o2 h λBf Ce Bs Ck h=>gc 23 [iF Bi Ce,eF (Enc.rd_agr Bi ((m.a 2 z).sub (λb hb=>Dl b (hb)))) Ce 0,iF (Enc.ow_rd V) Ck] k z λk=>?_;obtain ⟨_,_,Cr,Di,Dq,Df⟩:=AR (Enc.ow_rd V) (AG Ck).2.2;obtain ⟨Cd,_,rfl,rfl,By⟩:=Di;refine gl 6 [pF ((Dq.agr (m.a 1 z) Df).fld 0 1 (Nat.le_of_ble_eq_true z)),lF By] k z λk=>lG (λn a w=>∃ Ap Aq Ax As N Ao,K 102 [(1,Q),(5,Bg),(6,Bp),(7,Aq),(8,I A),(10,I E),(12,I Bf),(13,I N),(34,Bj),(35,I (M.length:Int)),(36,I A),(42,Bk),(43,I (U.f0.length:Int)),(44,I O),(52,Cd),(53,I (Bs.fM.length:Int)),(54,I Ao)] a∧St [] T w [(Aw,Bm),(Av,Bo),(Ay,Bt),(Ax,As)]∧ow As Ax [Aq] Ap∧EV fu (C4 fu (B1 fu D J L M Bx) D J L A U Co) D J L A E O Bf Bs n Ap N Ao=some r) ?_ fu ?_
         · rintro Dn a _ ⟨Ap,Aq,Ax,As,N,Ao,k,m,Bz,h⟩;refine uJ 6 h k z (λh k=>?_) λh k=>?_
           · refine o2 h λCn Cm Cb Cq h=>gc 23 [iF By Cm,eF (Enc.rd_agr By ((m.a 1 z).sub (λb hb=>Cr b (hb)))) Cm 0,iF (Enc.ow_rd Z) Cq] k z λk=>?_;obtain ⟨_,_,Dv,Dd,Dz,Dt⟩:=AR (Enc.ow_rd Z) (AG Cq).2.2;obtain ⟨Dp,_,rfl,rfl,Bv⟩:=Dd;refine gl 6 [pF ((Dz.agr (m.a 0 z) Dt).fld 0 1 (Nat.le_of_ble_eq_true z)),lF Bv] k z λk=>lG (λn a w=>∃ Bd Ar Az Bh Ak Br,K 102 [(1,Q),(5,Bg),(6,Bp),(7,Ar),(8,I A),(10,I E),(12,I Bf),(13,I N),(15,I Cn),(16,I Ak),(34,Bj),(35,I (M.length:Int)),(36,I A),(42,Bk),(43,I (U.f0.length:Int)),(44,I O),(52,Cd),(53,I (Bs.fM.length:Int)),(54,I Ao),(62,Dp),(63,I (Cb.f7.length:Int)),(64,I Br)] a∧St [] T w [(Aw,Bm),(Av,Bo),(Ay,Bt),(Az,Bh)]∧ow Bh Az [Ar] Bd∧Jw fu (EV fu (C4 fu (B1 fu D J L M Bx) D J L A U Co) D J L A E O Bf Bs Dn) D J A E N Ao Cn Cb n Bd Ak Br=some r) ?_ fu ?_
             · rintro Ez a _ ⟨Bd,Ar,Az,Bh,Ak,Br,k,m,Bw,h⟩;refine uJ 6 h k z (λh k=>?_) λh k=>?_
               · exact oE h λ_ D h=>gc 19 [iF Bv D,eF (Enc.rd_agr Bv ((m.a 0 z).sub (λb hb=>Dv b (hb)))) D 0] k z λk=>sv k z (AN Z4 k (cs:=#[I A,I Ak,I N,I E]) (ps:=[(0,.tmp 70),(1,.tmp 71),(2,.tmp 72),(3,.tmp 73)]) z z AQ) λa k=>oE h λ_ D h=>gl 1 [iF (Enc.ow_rd Bw) D] k z λk=>YE (α:=Spot) (sz:=4) (y:=(⟨A,Ak,N,E⟩:Spot)) sizeOf68 D m 3 Bw 0 k z z z z z z z z z z z z λ_ a k e m D=>oE h λ_ A h=>gl 19 [iF Y A,eF (m.r Y) A 0] k z λk=>⟨_,_,_,_,_,_,k.p z,m.f z,D,h⟩
               refine oE h λ_ A h=>gc 11 [iF (Enc.ow_rd Z) A] k z λk=>?_;obtain ⟨_,_,_,Dy,Dg,Dj⟩:=AR (Enc.ow_rd Z) (AG A).2.2;obtain ⟨_,_,rfl,rfl,_⟩:=Dy;exact gl 11 [pF ((Dg.agr (m.a 0 z) Dj).fld 2 1 (Nat.le_of_ble_eq_true z))] k z λk=>⟨_,_,_,_,_,_,k.p z,m.f z,Bw,h⟩
             exact ⟨_,_,_,_,_,_,k.p z,m.f z,Bz,h⟩
           refine oE h λ_ A h=>gc 11 [iF (Enc.ow_rd V) A] k z λk=>?_;obtain ⟨_,_,_,Eh,Du,Ct⟩:=AR (Enc.ow_rd V) (AG A).2.2;obtain ⟨_,_,rfl,rfl,_⟩:=Eh;exact gl 11 [pF ((Du.agr (m.a 1 z) Ct).fld 2 1 (Nat.le_of_ble_eq_true z))] k z λk=>⟨_,_,_,_,_,_,k.p z,m.f z,Bz,h⟩
         exact ⟨_,_,_,_,_,_,k.p z,m.f z,Ca,h⟩
       exact uc 11 k z λk=>⟨_,_,_,_,_,k.p z,m.f z,Ca,h⟩
     exact ⟨_,_,_,_,_,_,k.p z,m.sl [1,2,3,4] z,Cg,h⟩
   exact uc 12 k z λk=>fL h k m Cg 3 z z
 exact ⟨_,_,_,_,_,k.p z,m.sl [3,2,0,1] z,Cu,h⟩
theorem ZA {fu J A E D r} (h:LG fu A=some r) (L:rd J D [E] A):cS 53 [E] J (I r):=by
 refine eg func53 z ntmps53 z λk m=>gc 19 [lF L] k z λk=>lG (λn a w=>∃ M D,K 22 [(3,I M),(6,E),(7,I (A.length:Int)),(8,I D)] a∧St [] J w []∧GT fu A n M D=some r) ?_ fu ?_
 · rintro N a _ ⟨M,D,k,m,h⟩;refine uJ 6 h k z (λh k=>?_) λh k=>?_
   · refine uc 2 k z λk=>cg (λa w=>∃ M,K 22 [(3,I M),(6,E),(7,I (A.length:Int)),(8,I D)] a∧St [] J w []∧NL fu (GT fu A N) D M=some r) ?_ ?_
     · rintro a _ ⟨M,k,m,h⟩;exact uc 5 k z λk=>⟨_,_,k.p z,m.f z,h⟩
     refine oE h λ_ A h=>gc 5 [iF L A,eA (m.r L) A] k z λk=>AP m k zeroValue68 z z z z z λ_ _ a k m e A=>sT sizeOf68 m 0 A 0 k z z λ_ a k e m A=>oE h λ_ D h=>gl 6 [bF m 0 A z] k z λk=>cC k m call91 z (BA D) λ_ e a k m=>lJ 2 h k z (λh k=>?_) λh k=>?_
     · exact gc 10 [bF m 0 A z] k z λk=>⟨_,k.p z,m.f z,h⟩
     exact uc 3 k z λk=>⟨_,k.p z,m.f z,h⟩
   refine uc 12 k z λk=>fS h k m z z
 exact ⟨_,_,k.p z,m.f z,h⟩
theorem iM {fu J M Y F3 r} (h:Wp fu M=some r) (Da:rd J F3 Y M):Calls Tryz.prog 22 #[.agg Y.toArray] J λe w=>∃ (Ci:List Value) (Y:List Nat),e=.returned (.tuple #[.agg Ci.toArray,.bool (r.2)])∧Ext [] J w∧ow w Y Ci r.1∧(∀ b∈Y,J.heap.size≤b):=by
 refine eg (vs:=[_]) func22 z ntmps22 z λk m=>?_;obtain ⟨_,_,_,_,_,_,rfl,rfl,Al,Am,Ak⟩:=Da;refine uc 2 k z λk=>AW m k z z z z z z λL Bo a k m e Ax=>AP m k zeroValue43 z z z z z λO Bk a k m e Ck=>oE h λ_ Y h=>gl 7 [bA m 1 Ax z] k z λk=>cC k m call48 z (JP Y (AE (m.r Al) (m.r Am) (m.r Ak))) λ_ e a k m=>lJ 3 h k z (λh k=>?_) λh k=>?_
 · refine uc 2 k z λk=>sv k z (AN aQ k (cs:=#[.slice none 0 0,.slice none 0 0]) (ps:=[]) z z AQ) λa k=>sT sizeOf43 m 0 Ck 0 k z z λ_ a k e m Y=>ul 5 k z λk=>?_;cases h;exact B4 k z (RV.cA k z YM (Y.at (m.a 0 z) 0 2 z z z) z) (RV.tmp k z) ⟨_,_,z,m.ext,⟨_,[],_,[],z,z,(A0 _),(A0 _),by simpa [EC] using (m.sl [] z).nd⟩,(A3 AD AD)⟩
 refine oE h λQ Y h=>gc 5 [bA m 1 Ax z] k z λk=>sL k m call49 z (cn Y (AE (m.r Al) (m.r Am) (m.r Ak))) λBi U Z T k m=>sv k z (AN aQ k (cs:=#[U,.slice none 0 0]) (ps:=[(0,.tmp 19)]) z z (CU z (CK (Enc.ow_rd T)) z z)) λa k=>AP m k zeroValue43 z z z z z λE _ a k m e Y=>sT sizeOf43 m 0 Y 0 k z (AH (A5 (Enc.ow_rd T)) (AH z DS)) λ_ a k e m Di=>oE h λN Y h=>gl 11 [bA m 3 Ax z] k z λk=>sL k m call50 z (SG Y (AE (m.r Al) (m.r Am) (m.r Ak))) λ_ _ _ Y k m=>gl 5 [lF (Enc.ow_rd Y)] k z λk=>lG (λn a w=>∃ Aq Ay V Ar Y D A,K 75 [(1,pt L),(2,pt O),(4,pt E),(5,I D),(23,I (N.length:Int)),(24,I A)] a∧St [] J w [([L],Bo),([O],Bk),(V,Ar),([E],Y),(Z,Bi)]∧ow Ar V [Ay] Aq∧bx Y E [U,Ay] 43∧C1 fu M Q N n Aq D A=some r) ?_ fu ?_
 · rintro Bu a _ ⟨Aq,Ay,V,Ar,Y,D,A,k,m,Bx,Bs,h⟩;refine uJ 6 h k z (λh k=>?_) λh k=>?_
   · refine uc 12 k z λk=>sB kG m k z (by exact fN) λ_ _ _ a k m e Ct=>?_;have Cn:=AO Ct ([]:List Box) z z z;refine gl 13 [bF m 4 Bs z,lF (Enc.ow_rd T)] k z λk=>lG (λn a w=>∃ Bb Bd Bf Bp Ap,K 75 [(1,pt L),(2,pt O),(4,pt E),(5,I D),(6,I A),(7,Bd),(23,I (N.length:Int)),(24,I A),(29,U),(30,I (Q.length:Int)),(31,I Ap)] a∧St [] J w [([L],Bo),([O],Bk),([E],Y),(Z,Bi),(V,Ar),(Bf,Bp)]∧ow Bp Bf [Bd] Bb∧H7 fu (C1 fu M Q N Bu) M Q Aq D A n Bb Ap=some r) ?_ fu ?_
     · rintro Cr a _ ⟨Bb,Bd,Bf,Bp,Ap,k,m,Br,h⟩;refine uJ 6 h k z (λh k=>?_) λh k=>?_
       · refine uc 2 k z λk=>cg (λa w=>∃ Bn Bm Bc Bh,K 75 [(1,pt L),(2,pt O),(4,pt E),(5,I D),(6,I A),(7,Bm),(23,I (N.length:Int)),(24,I A),(29,U),(30,I (Q.length:Int)),(31,I Ap)] a∧St [] J w [([L],Bo),([O],Bk),([E],Y),(Z,Bi),(V,Ar),(Bc,Bh)]∧ow Bh Bc [Bm] Bn∧PC fu (H7 fu (C1 fu M Q N Bu) M Q Aq D A Cr) Ap Bn=some r) ?_ ?_
         · rintro a _ ⟨Bn,Bm,Bc,Bh,k,m,Y,h⟩;exact uc 5 k z λk=>⟨_,_,_,_,_,k.p z,m.f z,Y,h⟩
         refine oE h λ_ Y h=>gc 4 [iF (Enc.ow_rd T) Y] k z λk=>?_;obtain ⟨_,_,Dh,Eb,De,Ef⟩:=AR (Enc.ow_rd T) (AG Y).2.2;obtain ⟨_,_,rfl,rfl,By⟩:=Eb;refine sv k z (DV Ok (De.agr (m.a 3 z) Ef) z k z z) λa k=>AP m k zeroValue66 z z z z z λ_ _ a k m e Y=>sT sizeOf66 m 0 Y 0 k z (AH z (AH z (AH (A5 By) DS))) λ_ a k e m Y=>hJ 10 [bF m 0 Y z] h k z (λh k=>?_) λh k=>?_
         · refine oE h λAv El h=>gc 4 [bA m 1 Ax z,bA m 0 Y z] k z λk=>cC k m call51 z (bC El (AE (m.r Al) (m.r Am) (m.r Ak)) (IZ (Enc.rd_agr By ((m.a 4 z).sub (λb Y=>Dh b (Y)))))) λ_ e a k m=>sB kG m k z (by exact fC z fN) λ_ _ _ a k m e Y=>?_;have Dw:=AO Y ([Av]:List Box) z z z;exact oE h λ_ Y h=>BX Y kG z m 7 Br (News.rd (m.q Dw 0 z)) z z k z z z z z z z λ_ _ _ a k e m Y=>ul 4 k z λk=>⟨_,_,_,_,k.p z,m.sl [2,3,4,5,6,7] z,Y,h⟩
         exact uc 3 k z λk=>⟨_,_,_,_,k.p z,m.sl [1,2,3,4,5,6] z,Br,h⟩
       refine oE h λCg Y h=>gc 10 [bA m 0 Ax z] k z λk=>sL k m call52 z (g9 Y (m.q Br 5 z)) λCz Dy Cc Y k m=>oE h λBt Dp h=>ul 6 k z λk=>cC k m call53 z (ZA Dp (m.q Y 0 z)) λ_ e a k m=>gl 12 [lF (Enc.ow_rd Y)] k z λk=>lG (λn a w=>∃ Bg Az Bj Bl Be Ba,K 75 [(1,pt L),(2,pt O),(4,pt E),(5,I D),(11,I Bt),(23,I (N.length:Int)),(24,I A),(52,Dy),(53,I (Cg.length:Int)),(54,I Ba)] a∧St [] J w [([L],Bo),([O],Bk),(Bj,Bl),([E],Be),(Z,Bi),(Cc,Cz)]∧ow Bl Bj [Az] Bg∧bx Be E [U,Az] 43∧Iv fu (C1 fu M Q N Bu) D A Cg Bt n Bg Ba=some r) ?_ fu ?_
       · rintro _ a _ ⟨Bg,Az,Bj,Bl,Be,Ba,k,m,M,E,h⟩;refine uJ 6 h k z (λh k=>?_) λh k=>?_
         · refine oE h λA L h=>gc 8 [iF (Enc.ow_rd Y) L,eA (m.q Y 5 z) L] k z λk=>AP m k zeroValue68 z z z z z λ_ Ez a k m e L=>sT sizeOf68 m 0 L 0 k z z λ_ a k e m L=>gl 9 [bF m 0 L z] k z λk=>sT sizeOf3 m 0 L 0 k z z λ_ a k e m L=>gl 6 [bF m 4 E z,bA m 0 L z] k z λk=>sB XJ m k z (by exact fC z fN) λ_ _ _ a k m e N=>?_;have L:=AO N ([(⟨AK (A.fJ+D),A.fX,A.fY,A.fZ⟩:Spot)]:List Spot) z z z;exact oE h λ_ A h=>BX A XJ z m 4 M (News.rd (m.q L 0 z)) z z k z z z z z z z λD _ _ a k e m A=>sv k z (M5 SV k z z) λa k=>CN (cs':=[U,D]) sizeOf41 m 5 E 1 k (CK (Enc.ow_rd A)) (A5 (Enc.ow_rd A)) z z z z z z z z z λ_ a k e m D=>ul 8 k z λk=>⟨_,_,_,_,_,_,k.p z,m.sl [2,3,4,5,6,7] z,A,D,h⟩
         exact uc 18 k z λk=>⟨_,_,_,_,_,_,_,k.p z,m.f z,M,E,h⟩
       exact ⟨_,_,_,_,_,_,k.p z,m.sl [1,2,5,3,4,0] z,Bx,Bs,h⟩
     exact ⟨_,_,_,_,_,k.p z,m.sl [1,2,4,5,3,0] z,Cn,h⟩
   refine gc 8 [bA m 3 Bs z] k z λk=>sT sizeOf43 m 1 Ck 0 k z (AH (A5 (Enc.ow_rd T)) (AH (A5 (Enc.ow_rd Bx)) DS)) λ_ a k e m A=>ul 4 k z λk=>?_;cases h;exact B4 k z (RV.cA k z YM (A.at (m.a 1 z) 0 2 z z z) z) (RV.tmp k z) ⟨_,_,z,m.ext,⟨_,Z,_,V,z,z,(m.v T 4 z),(m.v Bx 2 z),by simpa [EC] using (m.sl [4,2] z).nd⟩,(A3 (m.fresh 4 z) (m.fresh 2 z))⟩
 exact ⟨_,_,_,_,_,_,_,k.p z,(m.addNil (u:=J)).sel [5,4,0,2,3] z A1,(A0 _),Di,h⟩
theorem aP {fu L E A J r} (h:NV fu E=some r) (D:rd L J [A] E):cS 92 [A] L (.bool (r)):=by
 refine eg func92 z ntmps92 z λk m=>gc 14 [lF D] k z λk=>lG (λn a w=>∃ J,K 32 [(0,A),(5,A),(6,I (E.length:Int)),(7,I J)] a∧St [] L w []∧EX fu E n J=some r) ?_ fu ?_
 · rintro M a _ ⟨J,k,m,h⟩;refine uJ 6 h k z (λh k=>?_) λh k=>?_
   · refine uc 2 k z λk=>cg (λa w=>K 32 [(0,A),(5,A),(6,I (E.length:Int)),(7,I J)] a∧St [] L w []∧KQ fu (EX fu E M) J=some r) ?_ ?_
     · rintro a _ ⟨k,m,h⟩;exact uc 5 k z λk=>⟨_,k.p z,m.f z,h⟩
     refine o2 h λ_ A _ E h=>gc 13 [iF D A,eF (m.r D) A 0] k z λk=>cC k m call91 z (BA E) λ_ e a k m=>pN 2 k z λa k=>bT h k 15 z (λh k=>?_) λh k=>?_
     · refine ul 26 k z λk=>fS h k m z z
     refine pN 3 k z λa k=>bT h k 18 z (λh k=>?_) λh k=>?_
     · refine oE h λ_ A h=>hJ 11 [iF D A,eF (m.r D) A 0] h k z (λh k=>?_) λh k=>?_
       · refine uc 11 k z λk=>fS h k m z z
       exact uc 3 k z λk=>⟨k.p z,m.f z,h⟩
     exact ul 15 k z λk=>⟨k.p z,m.f z,h⟩
   refine gc 14 [lF D] k z λk=>fS h k m z z
 exact ⟨_,k.p z,m.f z,h⟩
theorem DW {fu A n1 r} (h:CS fu n1=some r):cS 93 [I n1] A (.bool (r)):=by
 refine eg func93 z ntmps93 z λk m=>oE h λ_ A h=>uc 8 k z λk=>cC k m call91 z (BA A) λ_ e a k m=>ul 4 k z λk=>fS h k m z z
theorem Yl {fu L A E J r} (h:KY fu A=some r) (O:rd L J E A):cS 34 [.agg E.toArray] L (.bool (r)):=by
 refine eg func34 z ntmps34 z λk m=>?_;obtain ⟨Q,_,_,_,rfl,rfl,D,N⟩:=O;refine uc 2 k z λk=>AW m k z z z z z z λE O a k m e M=>ul 3 k z λk=>cg (λa w=>K 73 [(1,pt E)] a∧St [] L w [([E],O)]∧V5 fu A=some r) ?_ ?_
 · rintro a _ ⟨k,m,h⟩;refine gc 10 [bF m 0 M z,lF D] k z λk=>lG (λn a w=>∃ J,K 73 [(1,pt E),(20,Q),(21,I (A.fV.length:Int)),(22,I J)] a∧St [] L w [([E],O)]∧HX fu A n J=some r) ?_ fu ?_
   · rintro Y a _ ⟨J,k,m,h⟩;refine uJ 6 h k z (λh k=>?_) λh k=>?_
     · refine uc 2 k z λk=>cg (λa w=>K 73 [(1,pt E),(20,Q),(21,I (A.fV.length:Int)),(22,I J)] a∧St [] L w [([E],O)]∧VE fu (HX fu A Y) J=some r) ?_ ?_
       · rintro a _ ⟨k,m,h⟩;exact uc 5 k z λk=>⟨_,k.p z,m.f z,h⟩
       refine oE h λ_ A h=>gc 5 [iF D A] k z λk=>?_;obtain ⟨_,_,_,V,U,T⟩:=AR D (AG A).2.2;obtain ⟨_,_,rfl,rfl,J⟩:=V;refine sv k z (DV Ok (U.agr (m.a00 (Enc.rd_lt D)) T) z k z z) λa k=>AP m k zeroValue66 z z z z z λ_ _ a k m e A=>pN 1 k z λa k=>sT sizeOf66 m 0 A 0 k z (AH z (AH z (AH (A5 J) DS))) λ_ a k e m E=>oE h λ_ A h=>gl 9 [bF m 1 M z,iF N A,eA (m.r N) A] k z λk=>AP m k zeroValue68 z z z z z λ_ _ a k m e A=>sT sizeOf68 m 0 A 0 k z z λ_ a k e m A=>oE h λ_ L h=>gl 6 [bF m 1 E z] k z λk=>cC k m call91 z (BA L) λ_ e a k m=>pN 2 k z λa k=>bT h k 36 z (λh k=>?_) λh k=>?_
       · refine ul 49 k z λk=>fS h k m z z
       refine oE h λ_ L h=>gl 2 [bF m 1 E z] k z λk=>cC k m call91 z (BA L) λ_ e a k m=>pN 3 k z λa k=>bT h k 42 z (λh k=>?_) λh k=>?_
       · refine ul 43 k z λk=>fS h k m z z
       refine oE h λ_ L h=>gl 2 [bF m 1 E z] k z λk=>cC k m call92 z (aP L (m.r J)) λ_ e a k m=>pN 3 k z λa k=>bT h k 48 z (λh k=>?_) λh k=>?_
       · refine ul 37 k z λk=>fS h k m z z
       refine oE h λ_ E h=>gl 2 [bF m 0 A z] k z λk=>cC k m call93 z (DW E) λ_ e a k m=>pN 3 k z λa k=>bT h k 54 z (λh k=>?_) λh k=>?_
       · refine ul 31 k z λk=>fS h k m z z
       refine oE h λ_ E h=>gl 2 [bF m 0 A z] k z λk=>cC k m call93 z (DW E) λ_ e a k m=>pN 3 k z λa k=>bT h k 60 z (λh k=>?_) λh k=>?_
       · refine ul 25 k z λk=>fS h k m z z
       refine oE h λ_ E h=>gl 2 [bF m 0 A z] k z λk=>cC k m call93 z (DW E) λ_ e a k m=>pN 3 k z λa k=>bT h k 66 z (λh k=>?_) λh k=>?_
       · refine ul 19 k z λk=>fS h k m z z
       refine oE h λ_ E h=>gl 2 [bF m 0 A z] k z λk=>cC k m call93 z (DW E) λ_ e a k m=>lJ 4 h k z (λh k=>?_) λh k=>?_
       · refine uc 11 k z λk=>fS h k m z z
       exact uc 3 k z λk=>⟨k.p z,m.sl [2] z,h⟩
     refine uc 11 k z λk=>fS h k m z z
   exact ⟨_,k.p z,m.f z,h⟩
 refine gc 10 [bF m 0 M z,lF N,bF m 0 M z,lF D] k z λk=>bT h k 13 z (λh k=>?_) λh k=>?_
 · refine ul 15 k z λk=>fS h k m z z
 refine hJ 7 [bF m 0 M z,lF D] h k z (λh k=>?_) λh k=>?_
 · refine uc 7 k z λk=>fS h k m z z
 exact uc 2 k z λk=>⟨k.p z,m.f z,h⟩
theorem dZ {fu A J D L M r} (h:MC fu J D=some r) (N:Te Tryz.prog A) (E:rd A M [L] D):cS 35 [.string (J),L] A (.tuple #[.string (r.1),.bool (r.2)]):=by
 refine eg func35 z ntmps35 z λk m=>gc 21 [lF E] k z λk=>lG (λn a w=>∃ J M,K 27 [(6,.string (J)),(10,L),(11,I (D.length:Int)),(12,I M)] a∧St [] A w []∧GC fu D n J M=some r) ?_ fu ?_
 · rintro _ a _ ⟨J,M,k,m,h⟩;refine uJ 6 h k z (λh k=>?_) λh k=>?_
   · refine o2 h λ_ A _ D h=>gc 15 [iF E A,eF (m.r E) A 0] k z λk=>cC k m call91 z (BA D) λ_ e a k m=>lJ 3 h k z (λh k=>?_) λh k=>?_
     · refine uc 13 k z λk=>?_;cases h;exact B4 k z (RV.tmp k z) (RV.tmp k z) ⟨z,m.ext⟩
     exact oE h λ_ A h=>uc 5 k z λk=>cC k m call94 z (ae A (m.te N)) λ_ e a k m=>oE h λ_ A h=>sv k z (TP A k z z z) λa k=>oE h λ_ A h=>sv k z (TP A k z z z) λa k=>ul 9 k z λk=>⟨_,_,k.p z,m.f z,h⟩
   refine oE h λ_ A h=>uc 8 k z λk=>sv k z (TP A k z z z) λa k=>ul 5 k z λk=>?_;cases h;exact B4 k z (RV.tmp k z) (RV.tmp k z) ⟨z,m.ext⟩
 exact ⟨_,_,k.p z,m.f z,h⟩
theorem Y3 {fu E D J O r} (h:MN fu D=some r) (U:Te Tryz.prog E) (M:rd E O J D):cS 14 [.agg J.toArray] E (.string (r)):=by
 refine eg func14 z ntmps14 z λk m=>?_;obtain ⟨T,_,_,_,rfl,rfl,A,N⟩:=M;refine uc 2 k z λk=>AW m k z z z z z z λO V a k m e L=>oE h λ_ J h=>gl 7 [bA m 0 L z] k z λk=>cC k m call34 z (Yl J (GO (m.r A) (m.r N))) λ_ e a k m=>lJ 3 h k z (λh k=>?_) λh k=>?_
 · refine uc 7 k z λk=>fS h k m z z
 refine gc 17 [bF m 0 L z,lF A] k z λk=>lG (λn a w=>∃ M J,K 50 [(1,pt O),(3,.string (M)),(13,T),(14,I (D.fV.length:Int)),(15,I J)] a∧St [] E w [([O],V)]∧E4 fu D n M J=some r) ?_ fu ?_
 · rintro _ a _ ⟨M,J,k,m,h⟩;refine uJ 6 h k z (λh k=>?_) λh k=>?_
   · refine oE h λQ D h=>gc 8 [iF A D] k z λk=>?_;obtain ⟨_,_,_,Y,Z,Av⟩:=AR A (AG D).2.2;obtain ⟨_,_,rfl,rfl,J⟩:=Y;refine sv k z (DV Ok (Z.agr (m.a00 (Enc.rd_lt A)) Av) z k z z) λa k=>AP m k zeroValue66 z z z z z λ_ _ a k m e A=>pN 1 k z λa k=>sT sizeOf66 m 0 A 0 k z (AH z (AH z (AH (A5 J) DS))) λ_ a k e m E=>oE h λA D h=>gl 9 [bF m 1 L z,iF N D,eA (m.r N) D] k z λk=>AP m k zeroValue68 z z z z z λ_ _ a k m e D=>sT sizeOf68 m 0 D 0 k z z λ_ a k e m D=>gl 16 [bF m 1 E z,bF m 1 E z,bF m 0 D z,bF m 0 D z,bF m 0 D z,bF m 0 D z] k z λk=>sB AV m k z (by exact fC z (fC z (fC z (fC z (fC z (fC z fN)))))) λ_ _ _ a k m e L=>?_;have D:=AO L ([Q.f8,Q.fF,A.fJ,A.fX,A.fY,A.fZ]:List Int) z z z;exact oE h λ_ A h=>gl 2 [bF m 2 E z] k z λk=>BX A AV z m 0 D (News.rd (m.r J)) z z k z z z z z z z λ_ _ _ a k e m D=>oE h λ_ A h=>cC k m call35 z (dZ A (m.te U) (m.q D 0 z)) λ_ e a k m=>oE h λ_ A h=>ul 10 k z λk=>sv k z (TP A k z z z) λa k=>ul 9 k z λk=>⟨_,_,k.p z,m.sl [3] z,h⟩
   refine uc 12 k z λk=>fS h k m z z
 exact ⟨_,_,k.p z,m.f z,h⟩
theorem lW {fu L E r} (h:X7 fu E=some r) (A:Te Tryz.prog L):cS 6 [.string (E)] L (.tuple #[.string (r.1),I r.2]):=by
 refine eg func6 z ntmps6 z λk m=>oE h λ_ E h=>uc 9 k z λk=>cC k m call8 z (X0 E (m.te A)) λ_ e a k m=>lJ 10 h k z (λh k=>?_) λh k=>?_
 · refine uc 9 k z λk=>?_;cases h;exact B4 k z (RV.tmp k z) (RV.tmp k z) ⟨z,m.ext⟩
 refine oE h λ_ E h=>uc 5 k z λk=>sC k call11 z (PA E (m.te A)) λ_ _ D=>?_;obtain ⟨_,_,rfl,e,M,E⟩:=D;refine ⟨_,z,λa k=>?_⟩;have m:=m.nw e E M;obtain ⟨_,_,_,_,_,_,rfl,rfl,L,E,N,_⟩:=M;have m:=m.split2;have m:=m.split2at1;refine pN 3 k z λa k=>AP m k zeroValue37 z z z z z λ_ _ a k m e M=>sT sizeOf37 m 0 M 0 k z (AH z (AH z (AH z (AH z (AH z (AH z (AH (A5 (Enc.ow_rd L)) (AH (A5 (Enc.ow_rd E)) (AH z (AH (A5 (Enc.ow_rd N)) DS)))))))))) λ_ a k e m M=>gl 6 [bA m 0 M z] k z λk=>oE h λ_ M h=>sC k call22 z (iM M (AE (m.q L 1 z) (m.q E 2 z) (m.q N 3 z))) λ_ _ D=>?_;obtain ⟨_,_,rfl,e,J,E⟩:=D;refine ⟨_,z,λa k=>?_⟩;have m:=m.nw e E J;obtain ⟨_,_,_,_,rfl,rfl,E,D,_⟩:=J;have m:=m.split2;refine pN 3 k z λa k=>AP m k zeroValue43 z z z z z λ_ _ a k m e J=>sT sizeOf43 m 0 J 0 k z (AH (A5 (Enc.ow_rd E)) (AH (A5 (Enc.ow_rd D)) DS)) λ_ a k e m L=>oE h λ_ J h=>gl 6 [bA m 0 L z] k z λk=>cC k m call14 z (Y3 J (m.te A) (GO (m.q E 1 z) (m.q D 2 z))) λ_ e a k m=>ul 5 k z λk=>?_;cases h;exact B4 k z (RV.tmp k z) (RV.tmp k z) ⟨z,m.ext⟩
theorem iV {fu A D r} (h:Wk fu D=some r) (J:Te Tryz.prog A):Calls Tryz.prog 33 #[.string (D)] A λe w=>∃ (D:List Value) (E:List Nat),e=.returned (.tuple #[.agg D.toArray,.agg (Flat.e r.2.1).toArray,.bool (r.2.2)])∧Ext [] A w∧ow w E D r.1∧(∀ b∈E,A.heap.size≤b):=by
 refine eg (vs:=[_]) func33 z ntmps33 z λk m=>uc 2 k z λk=>AP m k zeroValue66 z z z z z λL w4 a k m e T=>AP m k zeroValue68 z z z z z λN w7 a k m e V=>oE h λ_ D h=>ul 6 k z λk=>sL k m call30 z (Xt D) λ_ _ _ E k m=>oE h λAt D h=>gl 9 [lF (Enc.ow_rd E)] k z λk=>sC k call90 z (KC D (m.te J)) λ_ Y M=>?_;obtain ⟨Bc,U,rfl,e,D,E⟩:=M;refine ⟨_,z,λa k=>?_⟩;have m:=m.nw e E D;refine ul 7 k z λk=>cg (λa w=>K 61 [(2,pt L),(3,pt N),(6,Bc)] a∧St [] A w [([L],w4),([N],w7),(U,Y)]∧VK fu At=some r) ?_ ?_
 · rintro a _ ⟨k,m,h⟩;refine cg (λa w=>∃ J E M O Q Z,K 61 [(2,pt L),(3,pt N),(6,Bc),(8,pt Q)] a∧St [] A w [([L],w4),([N],w7),(U,Y),([Q],Z)]∧ow Y U [O] M∧bx Z Q [I J,I E,O] 66∧V3 fu At J E M=some r) ?_ ?_
   · rintro a _ ⟨J,E,M,O,Q,Z,k,m,Q,Bj,h⟩;refine uc 1 k z λk=>dI [] m z λA m s=>o2 h λAf Bi Ad Bf h=>o2 h λZ Bl Y Bh h=>dr [0,3,6,9,1,2,4,5,7,8,10,11] 12 [iF (Enc.ow_rd D) Bi,eF (A.q D 2 z) Bi 0,iF (Enc.ow_rd D) Bf,eF (A.q D 2 z) Bf 0,iF (Enc.ow_rd D) Bl,eF (A.q D 2 z) Bl 0,iF (Enc.ow_rd D) Bh,eF (A.q D 2 z) Bh 0] k z s λk=>dT k 12 z z s (λw s=>AN Z4 k (cs:=#[I Af,I Ad,I Z,I Y]) (ps:=[(0,.tmp 39),(1,.tmp 42),(2,.tmp 45),(3,.tmp 48)]) z z AQ) λa k=>dG 13 z ?_;refine BU (cs:=[I 0,I 0,I 0,I 0]) m k zeroValue68 z z z z z λ_ _ a k m e Br Cq=>?_;have Cc:=s.lo Cq;refine ns s e λs=>dG 14 z (sT sizeOf68 m 0 Br 0 k z z λ_ a k e m Az=>?_);refine nt (iR Cc) s e λs=>dD ((AF ?_));refine gc 4 [bA m 4 Bj z] k z λk=>sB X1 m k z (by exact fC z fN) λBk _ _ a k m e Bo=>gl 1 [bA m 1 Az z] k z λk=>sB XJ m k z (by exact fC z fN) λBg _ _ a k m e Ca=>?_;have Bd:=AO Ca ([(⟨Af,Ad,Z,Y⟩:Spot)]:List Spot) z z z;refine sv k z (AN aQ k (cs:=#[(.slice (some ⟨Bk,0,none⟩) 1 1),(.slice (some ⟨Bg,0,none⟩) 1 1)]) (ps:=[(0,.tmp 51),(1,.tmp 53)]) z z (CU z z z (CU z (CK (Enc.ow_rd Bd)) z z))) λa k=>oE h λ_ Bu h=>cC k m call34 z (Yl Bu (show rd _ _ [(.slice (some ⟨Bk,0,none⟩) 1 1),(.slice (some ⟨Bg,0,none⟩) 1 1)] ((⟨([(⟨J,E,M⟩:Carton)]:List Carton),([(⟨Af,Ad,Z,Y⟩:Spot)]:List Spot)⟩:Plan):Plan) from ⟨_,_,_,_,z,z,(r5 (m.y Bo 1 z) (show rd _ _ [I J,I E,O] ((⟨J,E,M⟩:Carton):Carton) from ⟨_,_,z,z,(m.q Q 5 z)⟩)),(m.q Bd 0 z)⟩)) λ_ e a k m=>lJ 3 h k z (λh k=>?_) λh k=>?_
     · refine uc 2 k z λk=>sv k z (AN bv k (cs:=#[I 0,I 0,.slice none 0 0]) (ps:=[]) z z AQ) λa k=>sv k z (AN Z4 k (cs:=#[I 0,I 0,I 0,I 0]) (ps:=[]) z z AQ) λa k=>sT sizeOf66 m 3 T 0 k z z λ_ a k e m J=>sT sizeOf68 m 4 V 0 k z z λ_ a k e m E=>ul 5 k z λk=>?_;cases h;exact bu k z (RV.cA k z Ok (J.at (m.a 3 z) 0 3 z z z) z) (RV.cA k z dH (E.at (m.a 4 z) 0 4 z z z) z) (RV.tmp k z) ⟨_,_,z,m.ext,⟨_,[],z,z,(A0 _),by simpa [EC] using (m.sl [] z).nd⟩,AD⟩
     refine uc 3 k z λk=>dI (([L])++([N])) m z λA m s=>?_;have E:=(A.sel [3,4,0,1,2,5,6] z A1).join2;refine dT k 0 z z s (λw s=>DV Ok (Bj.at (E.az 5 0 z z z s) 0 3 z z z) z k z z) λa k=>dT k 1 z z s (λw s=>DV dH (Az.at (E.az 3 0 z z z s) 0 4 z z z) z k z z) λa k=>dG 2 z (sT sizeOf66 m 3 T 0 k z (AH z (AH z (AH (A5 (Enc.ow_rd Q)) DS))) λ_ a k e m J=>?_);refine nt iA s e λs=>dG 3 z (sT sizeOf68 m 4 V 0 k z z λ_ a k e m E=>?_);refine nt iB s e λs=>dM [4] 1 z k z s λa k=>dD ?_;refine (AF ?_);refine wp_ret ?_;cases h;exact bu k z (RV.cA k z Ok (J.at (m.a 3 z) 0 3 z z z) z) (RV.cA k z dH (E.at (m.a 4 z) 0 4 z z z) z) (RV.tmp k z) ⟨_,_,z,m.ext,⟨_,U,z,z,(m.v Q 5 z),by simpa [EC] using (m.sl [5] z).nd⟩,(m.fresh 5 z)⟩
   refine dI [] m z λA m s=>o2 h λN E L J h=>oE h λ_ M h=>dr [0,3,6,1,2,4,5] 7 [iF (Enc.ow_rd D) E,eF (A.q D 2 z) E 0,iF (Enc.ow_rd D) J,eF (A.q D 2 z) J 0] k z s λk=>?_;obtain ⟨E,A,J⟩:=rS D M FY;refine dT k 7 z z s (λw s=>J k z z z _) λa k=>dT k 8 z z s (λw s=>AN bv k (cs:=#[I N,I L,E]) (ps:=[(0,.tmp 30),(1,.tmp 33),(2,.tmp 35)]) z z (CU z z z (CU z z z (CU z (CK (Enc.ow_rd A)) z z)))) λa k=>dG 9 z (BU (cs:=[I 0,I 0,.slice none 0 0]) m k zeroValue66 z z z z z λ_ _ a k m e J E=>?_);have D:=s.lo E;refine ns s e λs=>dG 10 z (sT sizeOf66 m 0 J 0 k z (AH z (AH z (AH (A5 (Enc.ow_rd A)) DS))) λ_ a k e m E=>?_);refine nt (iR D) s e λs=>dD ((AF ?_));exact ⟨_,_,_,_,_,_,k.p z,m.sl [1,2,3,0] z,A,E,h⟩
 refine uc 5 k z λk=>bT h k 22 z (λh k=>?_) λh k=>?_
 · refine ul 8 k z λk=>sv k z (AN bv k (cs:=#[I 0,I 0,.slice none 0 0]) (ps:=[]) z z AQ) λa k=>sv k z (AN Z4 k (cs:=#[I 0,I 0,I 0,I 0]) (ps:=[]) z z AQ) λa k=>sT sizeOf66 m 3 T 0 k z z λ_ a k e m A=>sT sizeOf68 m 2 V 0 k z z λ_ a k e m D=>ul 5 k z λk=>?_;cases h;exact bu k z (RV.cA k z Ok (A.at (m.a 3 z) 0 3 z z z) z) (RV.cA k z dH (D.at (m.a 2 z) 0 4 z z z) z) (RV.tmp k z) ⟨_,_,z,m.ext,⟨_,[],z,z,(A0 _),by simpa [EC] using (m.sl [] z).nd⟩,AD⟩
 refine lJ 5 h k z (λh k=>?_) λh k=>?_
 · refine uc 2 k z λk=>sv k z (AN bv k (cs:=#[I 0,I 0,.slice none 0 0]) (ps:=[]) z z AQ) λa k=>sv k z (AN Z4 k (cs:=#[I 0,I 0,I 0,I 0]) (ps:=[]) z z AQ) λa k=>sT sizeOf66 m 3 T 0 k z z λ_ a k e m A=>sT sizeOf68 m 2 V 0 k z z λ_ a k e m D=>ul 5 k z λk=>?_;cases h;exact bu k z (RV.cA k z Ok (A.at (m.a 3 z) 0 3 z z z) z) (RV.cA k z dH (D.at (m.a 2 z) 0 4 z z z) z) (RV.tmp k z) ⟨_,_,z,m.ext,⟨_,[],z,z,(A0 _),by simpa [EC] using (m.sl [] z).nd⟩,AD⟩
 exact uc 2 k z λk=>⟨k.p z,m.sl [3,2,0] z,h⟩
theorem YY {fu A L r} (h:MB fu L=some r) (hT:Te Tryz.prog A):Calls Tryz.prog 12 #[.string (L)] A λe w=>∃ (Q:List Value) (L:List Nat),e=.returned (.tuple #[.agg Q.toArray,.bool (r.2)])∧Ext [] A w∧ow w L Q r.1∧(∀ b∈L,A.heap.size≤b):=by
 refine eg (vs:=[_]) func12 z ntmps12 z λk m=>uc 2 k z λk=>AP m k zeroValue43 z z z z z λL w4 a k m e E=>oE h λQ U h=>ul 6 k z λk=>sL k m call30 z (Xt U) λw9 U Av M k m=>gl 11 [lF (Enc.ow_rd M)] k z λk=>cg (λa w=>K 59 [(2,pt L),(4,U),(5,I (AK ((Q.length:Int) - 1)))] a∧St [] A w [([L],w4),(Av,w9)]∧S7 fu Q=some r) ?_ ?_
 · rintro a _ ⟨k,m,h⟩;refine uc 2 k z λk=>sv k z (AN aQ k (cs:=#[.slice none 0 0,.slice none 0 0]) (ps:=[]) z z AQ) λa k=>AP m k zeroValue43 z z z z z λQ _ a k m e U=>sT sizeOf43 m 0 U 0 k z z λ_ a k e m Bn=>oE h λBi U h=>ul 7 k z λk=>am (Enc.ow_rd M) U k vj z z z z z z λCa a k Y=>gl 5 [lF Y] k z λk=>lG (λn a w=>∃ Ap U D Ba Z O N Ar Ax Af,K 59 [(2,pt L),(6,pt Q),(30,Ca),(31,I (Bi.length:Int)),(32,I Af)] a∧St [] A w [([L],w4),(D,Ba),(N,Ar),([Q],Ax),(Av,w9)]∧ow Ba D [U] Ap∧ow Ar N [O] Z∧bx Ax Q [U,O] 43∧H4 fu Bi n Ap Z Af=some r) ?_ fu ?_
   · rintro _ a _ ⟨Ap,U,D,Ba,Z,O,N,Ar,Ax,Af,k,m,V,Az,T,h⟩;refine uJ 6 h k z (λh k=>?_) λh k=>?_
     · refine o2 h λ_ L J Q h=>gc 14 [iF Y L,eF (Enc.rd_agr Y (m.a 4 z)) L 0] k z λk=>sC k call33 z (iV Q (m.te hT)) λ_ _ hR=>?_;obtain ⟨_,Aq,rfl,e,Ao,L⟩:=hR;refine ⟨_,z,λa k=>?_⟩;have m:=m.nw e L Ao;obtain ⟨Al,_,rfl,rfl,L,_⟩:=Ao;refine pN 4 k z λa k=>AP m k zeroValue66 z z z z z λ_ _ a k m e Q=>AP m k zeroValue68 z z z z z λ_ _ a k m e U=>sT sizeOf66 m 1 Q 0 k z (AH z (AH z (AH (A5 (Enc.ow_rd L)) DS))) λ_ a k e m Y=>sT sizeOf68 m 0 U 0 k z z λ_ a k e m U=>lJ 10 h k z (λh k=>?_) λh k=>?_
       · refine uc 2 k z λk=>sv k z (AN aQ k (cs:=#[.slice none 0 0,.slice none 0 0]) (ps:=[]) z z AQ) λa k=>sT sizeOf43 m 3 E 0 k z z λ_ a k e m Q=>ul 10 k z λk=>?_;cases h;exact B4 k z (RV.cA k z YM (Q.at (m.a 3 z) 0 2 z z z) z) (RV.tmp k z) ⟨_,_,z,m.ext,⟨_,[],_,[],z,z,(A0 _),(A0 _),by simpa [EC] using (m.sl [] z).nd⟩,(A3 AD AD)⟩
       refine gc 7 [bF m 6 T z,bA m 1 Y z] k z λk=>sB X1 m k z (by exact fC z fN) λ_ _ _ a k m e Z=>oE h λ_ Q h=>?_;have Y:ow _ (Aq) [I J.1.f8,I J.1.fF,Al] (J.1:Carton):=⟨_,_,z,z,(m.v L 3 z),by simpa [EC] using (m.sl [3] z).nd⟩
       have L:=News.box Z (m.a 0 z) AD (m:=1);have Z:=m.a 5 z;have m:=m.sl [5,3,0,1,2,4,6,7,8] z;have m:=m.join2;refine D6 (F:=D) (G:=(Aq)) Q X1 z m V Z L Y (Agr.refl _ _) k z z z z z z λQ _ _ a k e m L=>sv k z (M5 Ry k z z) λa k=>CN (cs':=[Q,O]) sizeOf40 m 6 T 0 k (CK (Enc.ow_rd L)) (A5 (Enc.ow_rd L)) z z z z z z z z z λ_ a k e m O=>gl 6 [bF m 6 O z,bA m 2 U z] k z λk=>sB XJ m k z (by exact fC z fN) λ_ _ _ a k m e Y=>?_;have U:=AO Y ([J.2.1]:List Spot) z z z;exact oE h λ_ J h=>BX J XJ z m 6 Az (News.rd (m.q U 0 z)) z z k z z z z z z z λU _ _ a k e m J=>sv k z (M5 SV k z z) λa k=>CN (cs':=[Q,U]) sizeOf41 m 7 O 1 k (CK (Enc.ow_rd J)) (A5 (Enc.ow_rd J)) z z z z z z z z z λ_ a k e m O=>ul 8 k z λk=>⟨_,_,_,_,_,_,_,_,_,_,k.p z,m.sl [5,1,6,7,8] z,L,J,O,h⟩
     refine gc 8 [bA m 3 T z] k z λk=>sT sizeOf43 m 0 E 0 k z (AH (A5 (Enc.ow_rd V)) (AH (A5 (Enc.ow_rd Az)) DS)) λ_ a k e m J=>ul 4 k z λk=>?_;cases h;exact B4 k z (RV.cA k z YM (J.at (m.a 0 z) 0 2 z z z) z) (RV.tmp k z) ⟨_,_,z,m.ext,⟨_,D,_,N,z,z,(m.v V 1 z),(m.v Az 2 z),by simpa [EC] using (m.sl [1,2] z).nd⟩,(A3 (m.fresh 1 z) (m.fresh 2 z))⟩
   exact ⟨_,_,_,_,_,_,_,_,_,_,k.p z,((m.addNil (u:=A)).addNil (u:=A)).sel [3,0,1,2,4] z A1,(A0 _),(A0 _),Bn,h⟩
 refine oE h λ_ A h=>gc 8 [iF (Enc.ow_rd M) A,eF (m.q M 0 z) A 0] k z λk=>bT h k 22 z (λh k=>?_) λh k=>?_
 · refine ul 8 k z λk=>sv k z (AN aQ k (cs:=#[.slice none 0 0,.slice none 0 0]) (ps:=[]) z z AQ) λa k=>sT sizeOf43 m 1 E 0 k z z λ_ a k e m A=>ul 5 k z λk=>?_;cases h;exact B4 k z (RV.cA k z YM (A.at (m.a 1 z) 0 2 z z z) z) (RV.tmp k z) ⟨_,_,z,m.ext,⟨_,[],_,[],z,z,(A0 _),(A0 _),by simpa [EC] using (m.sl [] z).nd⟩,(A3 AD AD)⟩
 refine lJ 5 h k z (λh k=>?_) λh k=>?_
 · refine uc 2 k z λk=>sv k z (AN aQ k (cs:=#[.slice none 0 0,.slice none 0 0]) (ps:=[]) z z AQ) λa k=>sT sizeOf43 m 1 E 0 k z z λ_ a k e m A=>ul 5 k z λk=>?_;cases h;exact B4 k z (RV.cA k z YM (A.at (m.a 1 z) 0 2 z z z) z) (RV.tmp k z) ⟨_,_,z,m.ext,⟨_,[],_,[],z,z,(A0 _),(A0 _),by simpa [EC] using (m.sl [] z).nd⟩,(A3 AD AD)⟩
 exact uc 2 k z λk=>⟨k.p z,m.sl [1,0] z,h⟩
theorem LO {fu D A L J Q M r} (h:CV fu A L=some r) (E:rd D Q [J] A) (Ap:WB Tryz.prog D M L):cS 142 [J,M] D (I r):=by
 refine eg func142 z ntmps142 z λk m=>?_;obtain ⟨O,N,rfl,V,Y⟩:=Ap;refine gc 14 [lF E] k z λk=>lG (λn a w=>∃ M,K 19 [(0,J),(1,(.func (.func O) #[] N.toArray)),(7,I (A.length:Int)),(8,I M)] a∧St [] D w []∧BI fu A L n M=some r) ?_ fu ?_
 · rintro _ a _ ⟨M,k,m,h⟩;refine uJ 6 h k z (λh k=>?_) λh k=>?_
   · refine oE h λ_ A h=>gc 16 [iF E A] k z λk=>?_;obtain ⟨_,_,_,U,e,T⟩:=AR E (AG A).2.2;obtain ⟨_,_,rfl,rfl,A⟩:=U;refine sv k z (DV Ok (e.agr (m.a00 (Enc.rd_lt E)) T) z k z z) λa k=>oE h λ_ D h=>UA k V z z z z z z (Y _ _ _ _ m.ext ⟨_,_,z,(IZ (m.r A))⟩ D) λ_ _ Z=>?_;obtain ⟨rfl,e⟩:=Z;refine ⟨_,z,λa k=>?_⟩;have m:=m.step e;refine lJ 2 h k z (λh k=>?_) λh k=>?_
     · refine uc 12 k z λk=>fS h k m z z
     exact uc 8 k z λk=>⟨_,k.p z,m.f z,h⟩
   refine uc 11 k z λk=>fS h k m z z
 exact ⟨_,k.p z,m.f z,h⟩
theorem K7 {fu A E L D M J r} (h:CH fu E L=some r) (N:rd A M [D] E) (O:WB Tryz.prog A J L):cS 71 [D,J] A (.bool (r)):=by
 refine eg func71 z ntmps71 z λk m=>?_;obtain ⟨_,_,rfl,A,E⟩:=O;refine oE h λ_ D h=>uc 9 k z λk=>cC k m call142 z (LO D (m.r N) ⟨_,_,z,A,λw A D r e=>E w A D r (m.ext.trans e AD)⟩) λ_ e a k m=>ul 5 k z λk=>fS h k m z z
theorem gV (fu) {E} (D) {A J} (L:rd E J A D) {r} (h:XD fu D=some r):cS 72 [.agg A.toArray] E (.bool (r)):=by
 refine eg func72 z ntmps72 z λk m=>?_;obtain ⟨_,_,rfl,rfl,A⟩:=L;refine uc 2 k z λk=>AW m k z z z z z z λ_ _ a k m e D=>gl 13 [bF m 0 D z,lF A] k z λk=>fS h k m z z
theorem dL {fu L A E J r} (h:Sk fu A=some r) (M:rd L J E A):cL 73 [.agg E.toArray] L r:=by
 refine eg func73 z ntmps73 z λk m=>?_;obtain ⟨T,_,_,_,rfl,rfl,D,_⟩:=M;refine uc 2 k z λk=>AW m k z z z z z z λ_ _ a k m e E=>ul 5 k z λk=>sB AV m k z (by exact fN) λ_ _ _ a k m e J=>?_;have Z:=AO J ([]:List Int) z z z;refine gl 13 [bF m 1 E z,lF D] k z λk=>lG (λn a w=>∃ M N E J O,K 20 [(3,N),(8,T),(9,I (A.fV.length:Int)),(10,I O)] a∧St [] L w [(E,J)]∧ow J E [N] M∧IJ fu A n M O=some r) ?_ fu ?_
 · rintro _ a _ ⟨M,N,E,J,O,k,m,Q,h⟩;refine uJ 6 h k z (λh k=>?_) λh k=>?_
   · refine oE h λ_ A h=>gc 7 [iF D A] k z λk=>?_;obtain ⟨_,_,_,Y,V,U⟩:=AR D (AG A).2.2;obtain ⟨_,_,rfl,rfl,A⟩:=Y;exact sv k z (DV Ok (V.agr (m.a00 (Enc.rd_lt D)) U) z k z z) λa k=>AP m k zeroValue66 z z z z z λ_ _ a k m e D=>sT sizeOf66 m 0 D 0 k z (AH z (AH z (AH (A5 A) DS))) λ_ a k e m D=>oE h λ_ E h=>gl 6 [bF m 0 D z] k z λk=>BX E AV z m 1 Q (News.rd (m.r A)) z z k z z z z z z z λ_ _ _ a k e m A=>ul 9 k z λk=>⟨_,_,_,_,_,k.p z,m.sl [1] z,A,h⟩
   exact uc 12 k z λk=>fL h k m Q 0 z z
 exact ⟨_,_,_,_,_,k.p z,m.f z,Z,h⟩
theorem YJ {fu E A L J N M Q r} (h:JQ fu A L=some r) (D:rd E N [J] A) (O:rd E Q [M] L):cS 75 [J,M] E (.bool (r)):=by
 refine eg func75 z ntmps75 z λk m=>gJ 15 [lF D,lF O] h k z (λh k=>?_) λh k=>?_
 · refine uc 7 k z λk=>fS h k m z z
 refine gc 11 [lF D] k z λk=>lG (λn a w=>∃ N,K 26 [(0,J),(1,M),(12,I (A.length:Int)),(13,I N)] a∧St [] E w []∧D3 fu A L n N=some r) ?_ fu ?_
 · rintro _ a _ ⟨N,k,m,h⟩;refine uJ 6 h k z (λh k=>?_) λh k=>?_
   · refine uc 11 k z λk=>dI [] m z λA m s=>o2 h λ_ E _ J h=>dr [0,1,4,5,2,3,6,7,8] 9 [iF D E,eF (A.r D) E 0,iF O J,eF (A.r O) J 0] k z s λk=>dD ((AF ?_));refine cJ h k z (λh=>?_) λh=>?_
     · refine uc 11 k z λk=>fS h k m z z
     exact uc 8 k z λk=>⟨_,k.p z,m.f z,h⟩
   refine uc 11 k z λk=>fS h k m z z
 exact ⟨_,k.p z,m.f z,h⟩
theorem ZE (fu) {D} (T J N) {E Q U} (L:bx D U [I J.f8,I J.fF,E] 66) (V:rd D Q [E] J.fK) {V Am Q} (E:bx D Q [V] 84) (M:rd D Am [V] N) {r} (h:OH fu T J N=some r):cS 148 [.agg (Flat.e (T)).toArray,pt U,pt Q] D (.bool (r)):=by
 refine eg func148 z ntmps148 z λk m=>uc 2 k z λk=>AW m k z z z z z z λ_ _ a k m e Ak=>ul 4 k z λk=>dI [] m z λA m s=>dF k 0 fI z s λa k=>dT k 1 z z s (λw s=>A9 GP (r:=[]) (L.at ((A.step s).a00 L.lt1) 1 1 z z z) k z z) λa k=>dT k 2 z z s (λw s=>A9 yp (r:=[]) (E.at ((A.step s).a00 E.lt1) 0 1 z z z) k z z) λa k=>dT k 3 z z s (λw s=>ig (α:=List Int) M k underlying84 z z) λa k=>dM [4,5] 2 z k z s λa k=>bT h k 10 z (λh k=>?_) λh k=>?_
 · refine dM [6,7,8,9,10,11,12,13,14,15,16] 11 z k z s λa k=>dD ((AF ?_));refine wp_ret (fS h k m z z)
 refine dT k 6 z z s (λw s=>A9 yp (r:=[]) (E.at ((A.step s).a00 E.lt1) 0 1 z z z) k z z) λa k=>dF k 7 fI z s λa k=>dT k 8 z z s (λw s=>A9 GP (r:=[]) (L.at ((A.step s).a00 L.lt1) 1 1 z z z) k z z) λa k=>oE h λ_ D h=>dr [9] 1 [iF M D] k z s λk=>?_;obtain ⟨_,Y,_,O,Z,Ao⟩:=AR M (AG D).2.2;obtain ⟨_,rfl⟩:∃ v,Y=[v]:=by obtain ⟨_,_,D,_⟩:=O; exact ⟨_,D⟩
 refine dT k 10 z z s (λw s=>A9 Yx (Z.agr ((A.step s).a00 (Enc.rd_lt M)) Ao) k z z) λa k=>dr [11,12] 2 [bF A 0 Ak z] k z s λk=>dG 13 z (oE h λ_ A h=>cC k m call149 z (PW A (m.r O)) λ_ e a k m=>?_);refine ns s e λs=>dM [14,15,16] 3 z k z s λa k=>dD ((AF ?_));refine wp_ret (fS h k m z z)
theorem an {fu J M D Bc F3 N F7 r} (h:L5 fu M D=some r) (Cg:rd J F3 Bc M) (Cc:rd J F7 N D):cS 78 [.agg Bc.toArray,.agg N.toArray] J (I r):=by
 refine eg func78 z ntmps78 z λk m=>?_;obtain ⟨_,_,_,_,_,_,rfl,rfl,T,U,O⟩:=Cg;obtain ⟨V,_,_,_,rfl,rfl,A,_⟩:=Cc;refine uc 2 k z λk=>AW m k z z z z z z λE Y a k m e Q=>AW m k z z z z z z λL Az a k m e Au=>gl 13 [bF m 0 Au z,lF A] k z λk=>lG (λn a w=>∃ N,K 77 [(2,pt E),(3,pt L),(17,V),(18,I (D.fV.length:Int)),(19,I N)] a∧St [] J w [([E],Y),([L],Az)]∧EH fu M D n N=some r) ?_ fu ?_
 · rintro Ci a _ ⟨N,k,m,h⟩;refine uJ 6 h k z (λh k=>?_) λh k=>?_
   · refine uc 2 k z λk=>cg (λa w=>K 77 [(2,pt E),(3,pt L),(17,V),(18,I (D.fV.length:Int)),(19,I N)] a∧St [] J w [([E],Y),([L],Az)]∧MX fu (EH fu M D Ci) N=some r) ?_ ?_
     · rintro a _ ⟨k,m,h⟩;exact uc 5 k z λk=>⟨_,k.p z,m.f z,h⟩
     refine oE h λ_ N h=>gc 4 [iF A N] k z λk=>?_;obtain ⟨_,_,_,Bs,Bu,Ca⟩:=AR A (AG N).2.2;obtain ⟨_,_,rfl,rfl,Ax⟩:=Bs;refine sv k z (DV Ok (Bu.agr (m.a00 (Enc.rd_lt A)) Ca) z k z z) λa k=>AP m k zeroValue66 z z z z z λ_ _ a k m e N=>sT sizeOf66 m 0 N 0 k z (AH z (AH z (AH (A5 Ax) DS))) λ_ a k e m N=>oE h λ_ Bo h=>gl 7 [bA m 1 Q z,bF m 0 N z] k z λk=>cC k m call107 z (Sc Bo (AE (m.r T) (m.r U) (m.r O))) λ_ e a k m=>pN 3 k z λa k=>AP m k zeroValue102 z z z z z λ_ _ a k m e Cz=>sT sizeOf102 m 0 Cz 0 k z z λ_ a k e m Bw=>ul 8 k z λk=>bT h k 32 z (λh k=>?_) λh k=>?_
     · refine ul 21 k z λk=>fS h k m z z
     refine oE h λ_ De h=>gl 4 [bA m 2 Q z,bF m 1 N z,bA m 0 Bw z] k z λk=>cC k m call146 z (aR De (AE (m.r T) (m.r U) (m.r O)) (m.r Ax)) λ_ e a k m=>lJ 4 h k z (λh k=>?_) λh k=>?_
     · refine uc 11 k z λk=>fS h k m z z
     exact uc 3 k z λk=>⟨k.p z,m.sl [2,3] z,h⟩
   refine oE h λBx N h=>gc 8 [bA m 0 Q z] k z λk=>sL k m call50 z (SG N (AE (m.r T) (m.r U) (m.r O))) λCu N Bi Ao k m=>AP m k zeroValue84 z z z z z λZ _ a k m e Bv=>CN (cs':=[N]) sizeOf84 m 0 Bv 0 k (CK (Enc.ow_rd Ao)) (A5 (Enc.ow_rd Ao)) z z z z z z z z z λCn a k e m Cd=>gl 12 [bF m 3 Au z,lF A] k z λk=>lG (λn a w=>∃ N,K 77 [(2,pt E),(3,pt L),(9,pt Z),(44,V),(45,I (D.fV.length:Int)),(46,I N)] a∧St [] J w [([E],Y),([L],Az),([Z],Cn),(Bi,Cu)]∧FW fu M D Bx n N=some r) ?_ fu ?_
   · rintro _ a _ ⟨N,k,m,h⟩;refine uJ 6 h k z (λh k=>?_) λh k=>?_
     · refine oE h λ_ L h=>gc 7 [iF A L] k z λk=>?_;obtain ⟨_,_,_,Bn,By,Co⟩:=AR A (AG L).2.2;obtain ⟨_,_,rfl,rfl,Am⟩:=Bn;refine sv k z (DV Ok (By.agr (m.a00 (Enc.rd_lt A)) Co) z k z z) λa k=>AP m k zeroValue66 z z z z z λDg _ a k m e L=>sT sizeOf66 m 0 L 0 k z (AH z (AH z (AH (A5 Am) DS))) λ_ a k e m Bh=>oE h λ_ L h=>gl 7 [bA m 1 Q z,bF m 0 Bh z] k z λk=>sL k m call147 z (U7 L (AE (m.r T) (m.r U) (m.r O)) (m.r Am)) λ_ _ _ L k m=>pN 1 k z λa k=>oE h λ_ N h=>cC k m call66 z (C2 N (m.q L 0 z) ⟨148,[pt Dg,pt Z],z,call148,λw _ _ r e Bq hx=>by subst Bq; have m:=m.step e; exact ZE fu _ _ _ (Bh.agr (m.a 1 rfl) AD) (m.r Am) (Cd.agr (m.a 4 rfl) AD) (Enc.rd_agr (Enc.ow_rd Ao) (m.a 5 rfl)) hx⟩) λ_ e a k m=>ul 2 k z λk=>cI h k rfl (λL h=>?_) λL h=>?_
       · refine uc 11 k z λk=>fS h k m z z
       exact uc 8 k z λk=>⟨_,k.p z,m.sl [2,3,4,5] z,h⟩
     refine gc 15 [bF m 1 Au z,lF A] k z λk=>lG (λn a w=>∃ L,K 77 [(2,pt E),(58,V),(59,I (D.fV.length:Int)),(60,I L)] a∧St [] J w [([E],Y)]∧FX fu M D n L=some r) ?_ fu ?_
     · rintro _ a Ez ⟨L,k,m,h⟩;refine uJ 6 h k z (λh k=>?_) λh k=>?_
       · refine oE h λ_ D h=>gc 7 [iF A D] k z λk=>?_;obtain ⟨_,_,_,Df,Ct,Cl⟩:=AR A (AG D).2.2;obtain ⟨_,_,rfl,rfl,D⟩:=Df;refine sv k z (DV Ok (Ct.agr (m.a00 (Enc.rd_lt A)) Cl) z k z z) λa k=>AP m k zeroValue66 z z z z z λ_ _ a k m e A=>sT sizeOf66 m 0 A 0 k z (AH z (AH z (AH (A5 D) DS))) λ_ a k e m A=>oE h λ_ E h=>gl 7 [bA m 1 Q z,bF m 0 A z] k z λk=>cC k m call104 z (YS E (AE (m.r T) (m.r U) (m.r O)) (m.r D)) λ_ e a k m=>pN 3 k z λa k=>AP m k zeroValue102 z z z z z λ_ _ a k m e D=>sT sizeOf102 m 0 D 0 k z z λ_ a k e m D=>hJ 12 [bF m 0 D z,bF m 1 A z] h k z (λh k=>?_) λh k=>?_
         · refine uc 11 k z λk=>fS h k m z z
         exact uc 8 k z λk=>⟨_,k.p z,m.sl [2] z,h⟩
       refine uc 11 k z λk=>fS h k m z z
     exact ⟨_,k.p z,m.f z,h⟩
   exact ⟨_,k.p z,m.sl [2,3,0,1] z,h⟩
 exact ⟨_,k.p z,m.sl [1,0] z,h⟩
theorem je {fu T L J E r} (h:V6 fu L J E=some r):cS 150 [.agg (Flat.e (L)).toArray,.agg (Flat.e (J)).toArray,.agg (Flat.e (E)).toArray] T (.bool (r)):=by
 refine eg func150 z ntmps150 z λk m=>uc 2 k z λk=>AW m k z z z z z z λQ V a k m e M=>AW m k z z z z z z λO Y a k m e D=>AW m k z z z z z z λN U a k m e A=>ul 3 k z λk=>cg (λa w=>K 69 [(3,pt Q),(4,pt O),(5,pt N)] a∧St [] T w [([Q],V),([O],Y),([N],U)]∧VS fu L J E=some r) ?_ ?_
 · rintro a _ ⟨k,m,h⟩;refine gc 11 [bF m 2 A z,bF m 1 D z,bF m 0 M z] k z λk=>bT h k 49 z (λh k=>?_) λh k=>?_
   · refine gl 10 [bF m 2 A z,bF m 1 D z,bF m 0 M z] k z λk=>bT h k 59 z (λh k=>?_) λh k=>?_
     · refine gl 13 [bF m 2 A z,bF m 1 D z,bF m 0 M z] k z λk=>fS h k m z z
     refine ul 13 k z λk=>fS h k m z z
   refine ul 23 k z λk=>fS h k m z z
 refine oE h λ_ E h=>gc 4 [bF m 0 A z] k z λk=>cC k m call93 z (DW E) λ_ e a k m=>pN 2 k z λa k=>bT h k 11 z (λh k=>?_) λh k=>?_
 · refine ul 39 k z λk=>fS h k m z z
 refine oE h λ_ E h=>gl 2 [bF m 0 A z] k z λk=>cC k m call93 z (DW E) λ_ e a k m=>pN 3 k z λa k=>bT h k 17 z (λh k=>?_) λh k=>?_
 · refine ul 33 k z λk=>fS h k m z z
 refine oE h λ_ E h=>gl 2 [bF m 0 A z] k z λk=>cC k m call93 z (DW E) λ_ e a k m=>pN 3 k z λa k=>bT h k 23 z (λh k=>?_) λh k=>?_
 · refine ul 27 k z λk=>fS h k m z z
 refine oE h λ_ A h=>gl 2 [bF m 1 D z] k z λk=>cC k m call199 z (FC A) λ_ e a k m=>pN 3 k z λa k=>bT h k 29 z (λh k=>?_) λh k=>?_
 · refine ul 21 k z λk=>fS h k m z z
 refine oE h λ_ A h=>gl 2 [bF m 1 D z] k z λk=>cC k m call199 z (FC A) λ_ e a k m=>pN 3 k z λa k=>bT h k 35 z (λh k=>?_) λh k=>?_
 · refine ul 15 k z λk=>fS h k m z z
 refine oE h λ_ A h=>gl 2 [bF m 1 D z] k z λk=>cC k m call199 z (FC A) λ_ e a k m=>lJ 4 h k z (λh k=>?_) λh k=>?_
 · refine uc 7 k z λk=>fS h k m z z
 exact uc 2 k z λk=>⟨k.p z,m.sl [2,1,0] z,h⟩
theorem Z8 {fu E D A r} (h:RG fu D A=some r):cS 218 [.agg (Flat.e (D)).toArray,.agg (Flat.e (A)).toArray] E (.bool (r)):=by
 refine eg func218 z ntmps218 z λk m=>uc 2 k z λk=>AW m k z z z z z z λ_ _ a k m e A=>AW m k z z z z z z λ_ _ a k m e D=>oE h λ_ E h=>gl 7 [bF m 1 A z] k z λk=>cC k m call93 z (DW E) λ_ e a k m=>pN 1 k z λa k=>bT h k 8 z (λh k=>?_) λh k=>?_
 · refine oE h λ_ E h=>gl 2 [bF m 1 A z] k z λk=>cC k m call93 z (DW E) λ_ e a k m=>pN 2 k z λa k=>bT h k 13 z (λh k=>?_) λh k=>?_
   · refine oE h λ_ E h=>gl 2 [bF m 1 A z] k z λk=>cC k m call93 z (DW E) λ_ e a k m=>pN 2 k z λa k=>bT h k 18 z (λh k=>?_) λh k=>?_
     · refine oE h λ_ A h=>gl 2 [bF m 0 D z] k z λk=>cC k m call93 z (DW A) λ_ e a k m=>pN 2 k z λa k=>bT h k 23 z (λh k=>?_) λh k=>?_
       · refine oE h λ_ A h=>gl 2 [bF m 0 D z] k z λk=>cC k m call93 z (DW A) λ_ e a k m=>pN 2 k z λa k=>bT h k 28 z (λh k=>?_) λh k=>?_
         · refine oE h λ_ A h=>gl 2 [bF m 0 D z] k z λk=>cC k m call93 z (DW A) λ_ e a k m=>ul 5 k z λk=>fS h k m z z
         refine ul 8 k z λk=>fS h k m z z
       refine ul 13 k z λk=>fS h k m z z
     refine ul 18 k z λk=>fS h k m z z
   refine ul 23 k z λk=>fS h k m z z
 refine ul 28 k z λk=>fS h k m z z
end Go.Proofs.YtdgpkmgnjdpieaaGreatDoor
