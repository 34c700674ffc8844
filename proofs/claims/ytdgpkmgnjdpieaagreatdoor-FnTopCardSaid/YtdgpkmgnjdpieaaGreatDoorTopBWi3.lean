/- FnTop: the walks of .. -/
import Derived.Test.YtdgpkmgnjdpieaaGreatDoorTopBWi2
set_option maxRecDepth 20000
set_option linter.unusedSimpArgs false
set_option linter.unusedVariables false
set_option linter.unnecessarySimpa false
namespace Go.Proofs.YtdgpkmgnjdpieaaGreatDoor
open Go Go.RowKit
open Enc (rd ow)
open Arg (argv)
open Ret (retv)
open Go.Proofs.Tryz
theorem aD (fu) {E} (J D) {M L} (N:rd E L M J) {L} (A:bx E L [I D.fW,I D.fD,I D.fH,I D.fQ] 32) {r} (h:TF fu J D=some r):cS 238 [.agg M.toArray,pt L] E (.bool (r)):=by
 refine eg func238 z ntmps238 z λk m=>?_;obtain ⟨_,_,rfl,rfl,_⟩:=N;refine uc 2 k z λk=>AW m k z z z z z z λ_ _ a k m e D=>oE h λ_ E h=>gl 9 [bF m 0 D z,pF (r:=[]) (A.at (m.a00 A.lt1) 1 1 z z z)] k z λk=>cC k m call91 z (BA E) λ_ e a k m=>pN 2 k z λa k=>bT h k 10 z (λh k=>?_) λh k=>?_
 · refine ul 19 k z λk=>fS h k m z z
 refine oE h λ_ E h=>gl 4 [bF m 0 D z,pF (r:=[]) (A.at (m.a00 A.lt1) 2 1 z z z)] k z λk=>cC k m call91 z (BA E) λ_ e a k m=>pN 3 k z λa k=>bT h k 18 z (λh k=>?_) λh k=>?_
 · refine ul 11 k z λk=>fS h k m z z
 refine oE h λ_ E h=>gl 4 [bF m 0 D z,pF (r:=[]) (A.at (m.a00 A.lt1) 3 1 z z z)] k z λk=>cC k m call91 z (BA E) λ_ e a k m=>ul 6 k z λk=>fS h k m z z
theorem MZ {fu D A M L e J r} (h:EH fu A M=some r) (E:rd D e [L] A) (U:Wn Tryz.prog D J M):cS 263 [L,J] D (I r):=by
 refine eg func263 z ntmps263 z λk m=>?_;obtain ⟨Y,N,rfl,O,Z⟩:=U;refine gc 14 [lF E] k z λk=>lG (λn a w=>∃ J,K 19 [(0,L),(1,(.func (.func Y) #[] N.toArray)),(7,I (A.length:Int)),(8,I J)] a∧St [] D w []∧BB fu A M n J=some r) ?_ fu ?_
 · rintro _ a _ ⟨J,k,m,h⟩;refine uJ 6 h k z (λh k=>?_) λh k=>?_
   · refine oE h λ_ A h=>gc 16 [iF E A] k z λk=>?_;obtain ⟨_,_,_,V,T,Ar⟩:=AR E (AG A).2.2;obtain ⟨_,_,rfl,rfl,A⟩:=V;refine sv k z (DV dc (T.agr (m.a00 (Enc.rd_lt E)) Ar) z k z z) λa k=>oE h λ_ D h=>TT k O z z z z z z (Z _ _ _ _ m.ext ⟨_,_,z,(ol (m.r A))⟩ D) λ_ _ Q=>?_;obtain ⟨rfl,e⟩:=Q;refine ⟨_,z,λa k=>?_⟩;have m:=m.step e;refine lJ 2 h k z (λh k=>?_) λh k=>?_
     · refine uc 12 k z λk=>fS h k m z z
     exact uc 8 k z λk=>⟨_,k.p z,m.f z,h⟩
   refine uc 11 k z λk=>fS h k m z z
 exact ⟨_,k.p z,m.f z,h⟩
theorem LM {fu A J L E O D r} (h:CQ fu J L=some r) (M:rd A O [E] J) (N:Wn Tryz.prog A D L):cS 237 [E,D] A (.bool (r)):=by
 refine eg func237 z ntmps237 z λk m=>?_;obtain ⟨_,_,rfl,A,D⟩:=N;refine oE h λ_ E h=>uc 9 k z λk=>cC k m call263 z (MZ E (m.r M) ⟨_,_,z,A,λw E A r e=>D w E A r (m.ext.trans e AD)⟩) λ_ e a k m=>ul 5 k z λk=>fS h k m z z
theorem cW {fu E J L M N r} (h:PJ fu J L=some r) (O:rd E N [M] L):cS 182 [.agg (Flat.e (J)).toArray,M] E (.bool (r)):=by
 refine eg func182 z ntmps182 z λk m=>uc 2 k z λk=>AW m k z z z z z z λE _ a k m e D=>oE h λ_ J h=>gl 6 [bA m 0 D z] k z λk=>cC k m call130 z (Su J) λ_ e a k m=>pN 1 k z λa k=>bT h k 7 z (λh k=>?_) λh k=>?_
 · refine pN 2 k z λa k=>oE h λ_ J h=>cC k m call237 z (LM J (m.r O) ⟨238,[pt E],z,call238,λw _ _ r e A Q=>by obtain ⟨_,_,rfl,A⟩:=A; have m:=m.step e; exact aD fu _ _ A (m.y D 0 z) Q⟩) λ_ e a k m=>ul 6 k z λk=>fS h k m z z
 refine ul 9 k z λk=>fS h k m z z
theorem d0 {fu U p1 V v3 F4 r} (h:RY fu p1 V=some r) (Am:rd U F4 [v3] V):cL 111 [.agg (Flat.e (p1)).toArray,v3] U r:=by
 refine eg func111 z ntmps111 z λk m=>uc 2 k z λk=>AW m k z z z z z z λN Y a k m e Bh=>oE h λ_ Fv h=>gl 8 [bA m 0 Bh z] k z λk=>cC k m call182 z (cW Fv (m.r Am)) λ_ e a k m=>lJ 3 h k z (λh k=>?_) λh k=>?_
 · refine uc 7 k z λk=>?_;cases h;exact C7 k z (RV.tmp k z) ⟨_,[],z,m.ext,(A0 _),AD⟩
 refine uc 4 k z λk=>sB X0 m k z (by exact fN) λ_ _ _ a k m e Dp=>?_;have Gg:=QX (α:=Layer) Dp;refine gl 12 [lF Am] k z λk=>lG (λn a w=>∃ Ah Aw Aj Bb Q,K 102 [(2,pt N),(5,Aw),(15,v3),(16,I (V.length:Int)),(17,I Q)] a∧St [] U w [([N],Y),(Aj,Bb)]∧ow Bb Aj [Aw] Ah∧CN fu p1 V n Ah Q=some r) ?_ fu ?_
 · rintro Bv a _ ⟨Ah,Aw,Aj,Bb,Q,k,m,T,h⟩;refine uJ 6 h k z (λh k=>?_) λh k=>?_
   · refine uc 2 k z λk=>cg (λa w=>∃ Bc Ba Az Av,K 102 [(2,pt N),(5,Ba),(15,v3),(16,I (V.length:Int)),(17,I Q)] a∧St [] U w [([N],Y),(Az,Av)]∧ow Av Az [Ba] Bc∧S7 fu (CN fu p1 V Bv) Q Bc=some r) ?_ ?_
     · rintro a _ ⟨Bc,Ba,Az,Av,k,m,Gv,h⟩;exact uc 5 k z λk=>⟨_,_,_,_,_,k.p z,m.f z,Gv,h⟩
     refine oE h λE Bu h=>gc 5 [iF Am Bu] k z λk=>?_;obtain ⟨_,_,_,Fw,Cn,Ea⟩:=AR Am (AG Bu).2.2;obtain ⟨_,_,rfl,rfl,Gt⟩:=Fw;refine sv k z (DV dc (Cn.agr (m.a00 (Enc.rd_lt Am)) Ea) z k z z) λa k=>AP m k zeroValue145 z z z z z λAo _ a k m e Fs=>pN 1 k z λa k=>sT sizeOf145 m 0 Fs 0 k z (AH (A5 Gt) (AH z (AH z (AH z (AH z DR))))) λAt a k e m Au=>gl 10 [lF (Enc.ow_rd T)] k z λk=>cg (λa w=>∃ Bo Bd Bj Bg Be,K 102 [(2,pt N),(5,Bd),(6,I Q),(7,pt Ao),(8,I Be),(15,v3),(16,I (V.length:Int)),(17,I Q)] a∧St [] U w [([N],Y),([Ao],At),(Bj,Bg)]∧ow Bg Bj [Bd] Bo∧D6 fu (CN fu p1 V Bv) Q E Bo Be=some r) ?_ ?_
     · rintro a _ ⟨Bo,Bd,Bj,Bg,Be,k,m,Bi,h⟩;refine oE h λD O h=>gc 14 [iF (Enc.ow_rd Bi) O] k z λk=>?_;obtain ⟨_,_,_,Fu,Ch,Em⟩:=AR (Enc.ow_rd Bi) (AG O).2.2;obtain ⟨Dd,_,rfl,rfl,_⟩:=Fu;refine gl 2 [pF ((Ch.agr (m.a 2 z) Em).fld 0 1 (Nat.le_of_ble_eq_true z))] k z λk=>sB AV m k z (by exact fC z fN) λAy Ax _ a k m e V=>?_;have Fj:=AO V ([Q]:List Int) z z z;obtain ⟨_,_,m,Eu,Gm⟩:=m.opn 3 z Bi O Ch z (M':=[([Ay],Ax),([N],Y),([Ao],At)]) z;obtain ⟨Da,_,Gu,rfl,V,_⟩:=Gm;obtain rfl:Dd=Da:=by simpa using Gu
       refine oE h λL Q h=>BX Q AV z m 1 V (News.rd (m.q Fj 2 z)) z z k z z z z z z z λV Ck Ci a k e m Q=>ul 2 k z λk=>SU (α:=Layer) (sz:=4) (cs':=[V,I D.fD,I D.fH,I D.fQ]) sizeOf64 m 0 Eu 0 k (CJ (Enc.ow_rd Q)) (A5 (Enc.ow_rd Q)) z z z z z z z z z z λ_ a k e m Ew=>?_;obtain ⟨Bq,m,Ap⟩:=(m.sl [0,1,2,3,4] z).cls Ew (show ow Ci Ck [V,I D.fD,I D.fH,I D.fQ] ((⟨L,D.fD,D.fH,D.fQ⟩:Layer):Layer) from ⟨_,_,z,z,Q,(m.ndF 1 z)⟩);refine ul 3 k z λk=>eQ (Bq) hU m z λCd J=>?_;have m:=J;have s:=Ext.refl ((Bq):List Nat) Cd;refine dM [0] 1 z k z s λa k=>dT k 1 z z s (λw s=>KW k z z) λa k=>dF k 2 d7 z s λa k=>?_;obtain ⟨_,_,_,Fa,_,_⟩:=AR (Enc.ow_rd Ap) (AG (DH (⟨L,D.fD,D.fH,D.fQ⟩:Layer) O)).2.2;obtain ⟨_,_,rfl,rfl,_⟩:=Fa;refine dF k 4 ZM z s λa k=>?_;obtain ⟨_,_,_,Do,_,_⟩:=AR (Enc.ow_rd Ap) (AG (DH (⟨L,D.fD,D.fH,D.fQ⟩:Layer) O)).2.2;obtain ⟨_,_,rfl,rfl,_⟩:=Do;refine dT k 5 z z s (λw s=>A9 GP (r:=[]) (Au.at (J.az 3 0 z z z s) 2 1 z z z) k z z) λa k=>?_;obtain ⟨_,_,_,Dh,_,_⟩:=AR (Enc.ow_rd Ap) (AG (DH (⟨L,D.fD,D.fH,D.fQ⟩:Layer) O)).2.2;obtain ⟨_,_,rfl,rfl,_⟩:=Dh;refine dG 3 z ?_;obtain ⟨_,_,_,Er,Bx,Gr⟩:=AR (Enc.ow_rd Ap) (AG (DH (⟨L,D.fD,D.fH,D.fQ⟩:Layer) O)).2.2;obtain ⟨Bl,_,rfl,rfl,_⟩:=Er;refine gl 1 [pF ((Bx.agr (m.a 0 z) Gr).fld 1 1 (Nat.le_of_ble_eq_true z))] k z λk=>wpList_nil ⟨s,?_⟩;refine dM [6] 1 z k z s λa k=>dT k 7 z z s (λw s=>KW k z z) λa k=>dF k 8 d7 z s λa k=>dG 9 z ?_;obtain ⟨_,Es,m,Gb,Gf,Dz,_⟩:=m.opnS 0 z Ap (DH (⟨L,D.fD,D.fH,D.fQ⟩:Layer) O) Bx z (M':=[([Ay],Ax),([N],Y),([Ao],At)]) z;obtain ⟨Fz,_,Dv,rfl,V,_⟩:=Gf;obtain rfl:Bl=Fz:=by simpa using Dv
       refine TJ (α:=Layer) (sz:=4) (cs':=[Bl,I (AK (((⟨L,D.fD,D.fH,D.fQ⟩:Layer).fD)+E.fD)),I ((⟨L,D.fD,D.fH,D.fQ⟩:Layer).fH),I ((⟨L,D.fD,D.fH,D.fQ⟩:Layer).fQ)]) sizeOf3 m 0 Gb 1 k z z z z z z z z z (AH z DR) z z λ_ a k e m Gq=>oE h λA Q h=>?_;have Dn:=Option.some.inj Q;obtain ⟨Q,m,Z⟩:=(m.sl [0,1,2,3,4] z).cls Gq (show ow Cd Es [Bl,I (AK (((⟨L,D.fD,D.fH,D.fQ⟩:Layer).fD)+E.fD)),I ((⟨L,D.fD,D.fH,D.fQ⟩:Layer).fH),I ((⟨L,D.fD,D.fH,D.fQ⟩:Layer).fQ)] A from Dn ▸ ⟨_,_,z,z,V,(m.ndF 1 z)⟩);refine oE h λ_ V h=>?_;have El:=Option.some.inj V;have M:=DH A (DH (⟨L,D.fD,D.fH,D.fQ⟩:Layer) O);rw [El] at Z M;refine nt (λy hy=>Or.inl (Dz y hy)) s e λs=>dD ?_;refine (AF ?_);refine uc 1 k z λk=>eQ (Q) hU m z λBp J=>?_;have m:=J;have s:=Ext.refl ((Q):List Nat) Bp;refine dM [0,1] 2 z k z s λa k=>dT k 2 z z s (λw s=>KW k z z) λa k=>dF k 3 ZB z s λa k=>?_;obtain ⟨_,_,_,Fm,_,_⟩:=AR (Enc.ow_rd Z) (AG M).2.2;obtain ⟨_,_,rfl,rfl,_⟩:=Fm;refine dF k 5 ZQ z s λa k=>?_;obtain ⟨_,_,_,Ep,_,_⟩:=AR (Enc.ow_rd Z) (AG M).2.2;obtain ⟨_,_,rfl,rfl,_⟩:=Ep;refine dT k 6 z z s (λw s=>A9 GP (r:=[]) (Au.at (J.az 3 0 z z z s) 3 1 z z z) k z z) λa k=>?_;obtain ⟨_,_,_,Ds,_,_⟩:=AR (Enc.ow_rd Z) (AG M).2.2;obtain ⟨_,_,rfl,rfl,_⟩:=Ds;refine dG 4 z ?_;obtain ⟨_,_,_,Ej,Cb,Fh⟩:=AR (Enc.ow_rd Z) (AG M).2.2;obtain ⟨Bf,_,rfl,rfl,_⟩:=Ej;refine gl 1 [pF ((Cb.agr (m.a 0 z) Fh).fld 2 1 (Nat.le_of_ble_eq_true z))] k z λk=>wpList_nil ⟨s,?_⟩;refine dM [7] 1 z k z s λa k=>dT k 8 z z s (λw s=>KW k z z) λa k=>dF k 9 ZB z s λa k=>dG 10 z ?_;obtain ⟨_,Gn,m,Ek,Ef,De,_⟩:=m.opnS 0 z Z M Cb z (M':=[([Ay],Ax),([N],Y),([Ao],At)]) z;obtain ⟨Ez,_,Cr,rfl,O,_⟩:=Ef;obtain rfl:Bf=Ez:=by simpa using Cr
       refine TJ (α:=Layer) (sz:=4) (cs':=[Bf,I A.fD,I (if E.fH>A.fH then E.fH else A.fH),I A.fQ]) sizeOf3 m 0 Ek 2 k z z z z z z z z z (AH z DR) z z λ_ a k e m L=>?_;obtain ⟨D,m,Aq⟩:=(m.sl [0,1,2,3,4] z).cls L (show ow Bp Gn [Bf,I A.fD,I (if E.fH>A.fH then E.fH else A.fH),I A.fQ] ((⟨A.fM,A.fD,if E.fH>A.fH then E.fH else A.fH,A.fQ⟩:Layer):Layer) from ⟨_,_,z,z,O,(m.ndF 1 z)⟩);refine nt (λy hy=>Or.inl (De y hy)) s e λs=>dD ((AF ?_));refine eQ (D) hU m z λBw J=>?_;have m:=J;have s:=Ext.refl ((D):List Nat) Bw;refine dM [0] 1 z k z s λa k=>dT k 1 z z s (λw s=>KW k z z) λa k=>dF k 2 ZO z s λa k=>?_;obtain ⟨_,_,_,Eo,_,_⟩:=AR (Enc.ow_rd Aq) (AG (DH (⟨A.fM,A.fD,if E.fH>A.fH then E.fH else A.fH,A.fQ⟩:Layer) M)).2.2;obtain ⟨_,_,rfl,rfl,_⟩:=Eo;refine dF k 4 ZL z s λa k=>?_;obtain ⟨_,_,_,Gh,_,_⟩:=AR (Enc.ow_rd Aq) (AG (DH (⟨A.fM,A.fD,if E.fH>A.fH then E.fH else A.fH,A.fQ⟩:Layer) M)).2.2;obtain ⟨_,_,rfl,rfl,_⟩:=Gh;refine dT k 5 z z s (λw s=>A9 GP (r:=[]) (Au.at (J.az 3 0 z z z s) 4 1 z z z) k z z) λa k=>?_;obtain ⟨_,_,_,Fp,_,_⟩:=AR (Enc.ow_rd Aq) (AG (DH (⟨A.fM,A.fD,if E.fH>A.fH then E.fH else A.fH,A.fQ⟩:Layer) M)).2.2;obtain ⟨_,_,rfl,rfl,_⟩:=Fp;refine dG 3 z ?_;obtain ⟨_,_,_,Dy,By,Dm⟩:=AR (Enc.ow_rd Aq) (AG (DH (⟨A.fM,A.fD,if E.fH>A.fH then E.fH else A.fH,A.fQ⟩:Layer) M)).2.2;obtain ⟨Bn,_,rfl,rfl,_⟩:=Dy;refine gl 1 [pF ((By.agr (m.a 0 z) Dm).fld 3 1 (Nat.le_of_ble_eq_true z))] k z λk=>wpList_nil ⟨s,?_⟩;refine dM [6] 1 z k z s λa k=>dT k 7 z z s (λw s=>KW k z z) λa k=>dF k 8 ZO z s λa k=>dG 9 z ?_;obtain ⟨_,Dj,m,Et,Fb,Gp,_⟩:=m.opnS 0 z Aq (DH (⟨A.fM,A.fD,if E.fH>A.fH then E.fH else A.fH,A.fQ⟩:Layer) M) By z (M':=[([Ay],Ax),([N],Y),([Ao],At)]) z;obtain ⟨Co,_,Cw,rfl,N,_⟩:=Fb;obtain rfl:Bn=Co:=by simpa using Cw
       refine TJ (α:=Layer) (sz:=4) (cs':=[Bn,I ((⟨A.fM,A.fD,if E.fH>A.fH then E.fH else A.fH,A.fQ⟩:Layer).fD),I ((⟨A.fM,A.fD,if E.fH>A.fH then E.fH else A.fH,A.fQ⟩:Layer).fH),I (AK (((⟨A.fM,A.fD,if E.fH>A.fH then E.fH else A.fH,A.fQ⟩:Layer).fQ)+E.fQ))]) sizeOf3 m 0 Et 3 k z z z z z z z z z (AH z DR) z z λ_ a k e m O=>oE h λD L h=>?_;have Q:=Option.some.inj L;obtain ⟨Gc,m,L⟩:=(m.sl [0,1,2,3,4] z).cls O (show ow Bw Dj [Bn,I ((⟨A.fM,A.fD,if E.fH>A.fH then E.fH else A.fH,A.fQ⟩:Layer).fD),I ((⟨A.fM,A.fD,if E.fH>A.fH then E.fH else A.fH,A.fQ⟩:Layer).fH),I (AK (((⟨A.fM,A.fD,if E.fH>A.fH then E.fH else A.fH,A.fQ⟩:Layer).fQ)+E.fQ))] D from Q ▸ ⟨_,_,z,z,N,(m.ndF 1 z)⟩);refine oE h λ_ N h=>?_;have O:=Option.some.inj N;have N:=DH D (DH (⟨A.fM,A.fD,if E.fH>A.fH then E.fH else A.fH,A.fQ⟩:Layer) M);rw [O] at L N;refine nt (λy hy=>Or.inl (Gp y hy)) s e λs=>dD ?_;refine (ue 2 k z λk=>?_);exact ⟨_,_,_,_,k.p z,m.sl [2,0] z,L,h⟩
     refine uc 1 k z λk=>dI [] m z λJ m s=>dM [0,1,2] 3 z k z s λa k=>Tz (decide ((AK ((Ah.length:Int) - 1))<0)) (λA=>?_) (λA=>?_)
     · have h:=Wp A h;refine rB k 27 z A λk=>dM [3,4,5,6,7,8,9,10,11,12,13,14,15,16,17,18,19,20,21,22,23,24,25,26,27] 25 z k z s λa k=>dD ?_;refine (AF ?_);refine uc 4 k z λk=>sv k z (AN bq k (cs:=#[.slice none 0 0,I 0,I 0,I 0]) (ps:=[]) z z AQ) λa k=>sB X0 m k z (by exact fC z fN) λ_ _ _ a k m e E=>oE h λ_ L h=>?_;have m:=m.addNil (u:=U);have D:ow _ ([]) [.slice none 0 0,I 0,I 0,I 0] ((⟨[],0,0,0⟩:Layer):Layer):=(m.here λw=>⟨_,_,z,z,(A0 _),AD⟩)
       have M:=News.box E (m.a 1 z) AD (m:=1);have E:=m.a 4 z;have m:=m.sl [4,0,1,2,3] z;have m:=m.join2;exact D8 (F:=Aj) (G:=([])) L X0 z m T E M D (Agr.refl _ _) k z z z z z z λ_ _ _ a k e m D=>ul 9 k z λk=>⟨_,_,_,_,_,k.p z,m.sl [3,2,0] z,D,h⟩
     have h:=Ws A h;refine rB k 27 z A λk=>oE h λ_ Bm h=>dr [3,4,5,6] 4 [iF (Enc.ow_rd T) Bm] k z s λk=>?_;obtain ⟨_,_,_,Eh,Cg,Ca⟩:=AR (Enc.ow_rd T) (AG Bm).2.2;obtain ⟨_,_,rfl,rfl,_⟩:=Eh;refine dT k 7 z z s (λw s=>A9 GP ((Cg.agr ((J.step s).a 2 z) Ca).fld 1 1 (Nat.le_of_ble_eq_true z)) k z z) λa k=>dr [8,9,10,11,12,13,14,15] 8 [bF J 0 Au z,bF J 1 Bh z] k z s λk=>bT h k 40 z (λh k=>?_) λh k=>?_
     · refine dM [16,17,18,19,20,21,22,23,24,25,26,27] 12 z k z s λa k=>dD ?_;refine (AF ?_);refine uc 4 k z λk=>sv k z (AN bq k (cs:=#[.slice none 0 0,I 0,I 0,I 0]) (ps:=[]) z z AQ) λa k=>sB X0 m k z (by exact fC z fN) λ_ _ _ a k m e E=>oE h λ_ A h=>?_;have m:=m.addNil (u:=U);have L:ow _ ([]) [.slice none 0 0,I 0,I 0,I 0] ((⟨[],0,0,0⟩:Layer):Layer):=(m.here λw=>⟨_,_,z,z,(A0 _),AD⟩)
       have D:=News.box E (m.a 1 z) AD (m:=1);have E:=m.a 4 z;have m:=m.sl [4,0,1,2,3] z;have m:=m.join2;exact D8 (F:=Aj) (G:=([])) A X0 z m T E D L (Agr.refl _ _) k z z z z z z λ_ _ _ a k e m A=>ul 9 k z λk=>⟨_,_,_,_,_,k.p z,m.sl [3,2,0] z,A,h⟩
     refine oE h λ_ _ h=>dr [16,17,18,19] 4 [iF (Enc.ow_rd T) Bm] k z s λk=>dT k 20 z z s (λw s=>A9 GP ((Cg.agr ((J.step s).a 2 z) Ca).fld 3 1 (Nat.le_of_ble_eq_true z)) k z z) λa k=>dr [21,22,23,24,25,26,27] 7 [bF J 0 Au z,bF J 1 Bh z] k z s λk=>dD ?_;refine (AF ?_);refine cJ h k z (λh=>?_) λh=>?_
     · refine uc 3 k z λk=>sv k z (AN bq k (cs:=#[.slice none 0 0,I 0,I 0,I 0]) (ps:=[]) z z AQ) λa k=>sB X0 m k z (by exact fC z fN) λ_ _ _ a k m e E=>oE h λ_ A h=>?_;have m:=m.addNil (u:=U);have D:ow _ ([]) [.slice none 0 0,I 0,I 0,I 0] ((⟨[],0,0,0⟩:Layer):Layer):=(m.here λw=>⟨_,_,z,z,(A0 _),AD⟩)
       have J:=News.box E (m.a 1 z) AD (m:=1);have E:=m.a 4 z;have m:=m.sl [4,0,1,2,3] z;have m:=m.join2;exact D8 (F:=Aj) (G:=([])) A X0 z m T E J D (Agr.refl _ _) k z z z z z z λ_ _ _ a k e m A=>ul 9 k z λk=>⟨_,_,_,_,_,k.p z,m.sl [3,2,0] z,A,h⟩
     exact uc 2 k z λk=>⟨_,_,_,_,_,k.p z,m.sl [1,0,2] z,T,h⟩
   exact uc 12 k z λk=>fL h k m T 1 z z
 exact ⟨_,_,_,_,_,k.p z,m.sl [1,0] z,Gg,h⟩
theorem bK (fu) {E} (J D) {M L} (N:rd E L M J) {L} (A:bx E L [I D.fW,I D.fD,I D.fH,I D.fQ] 32) {r} (h:U7 fu J D=some r):cS 240 [.agg M.toArray,pt L] E (.bool (r)):=by
 refine eg func240 z ntmps240 z λk m=>?_;obtain ⟨_,_,rfl,rfl,_⟩:=N;refine uc 2 k z λk=>AW m k z z z z z z λ_ _ a k m e D=>oE h λ_ E h=>gl 9 [bF m 0 D z,pF (r:=[]) (A.at (m.a00 A.lt1) 1 1 z z z)] k z λk=>cC k m call91 z (BA E) λ_ e a k m=>pN 2 k z λa k=>bT h k 10 z (λh k=>?_) λh k=>?_
 · refine ul 19 k z λk=>fS h k m z z
 refine oE h λ_ E h=>gl 4 [bF m 0 D z,pF (r:=[]) (A.at (m.a00 A.lt1) 2 1 z z z)] k z λk=>cC k m call91 z (BA E) λ_ e a k m=>pN 3 k z λa k=>bT h k 18 z (λh k=>?_) λh k=>?_
 · refine ul 11 k z λk=>fS h k m z z
 refine oE h λ_ E h=>gl 4 [bF m 0 D z,pF (r:=[]) (A.at (m.a00 A.lt1) 3 1 z z z)] k z λk=>cC k m call91 z (BA E) λ_ e a k m=>ul 6 k z λk=>fS h k m z z
theorem MU {fu D A M L e J r} (h:EI fu A M=some r) (E:rd D e [L] A) (U:Wn Tryz.prog D J M):cS 264 [L,J] D (I r):=by
 refine eg func264 z ntmps264 z λk m=>?_;obtain ⟨Y,N,rfl,O,Z⟩:=U;refine gc 14 [lF E] k z λk=>lG (λn a w=>∃ J,K 19 [(0,L),(1,(.func (.func Y) #[] N.toArray)),(7,I (A.length:Int)),(8,I J)] a∧St [] D w []∧BC fu A M n J=some r) ?_ fu ?_
 · rintro _ a _ ⟨J,k,m,h⟩;refine uJ 6 h k z (λh k=>?_) λh k=>?_
   · refine oE h λ_ A h=>gc 16 [iF E A] k z λk=>?_;obtain ⟨_,_,_,V,T,Ar⟩:=AR E (AG A).2.2;obtain ⟨_,_,rfl,rfl,A⟩:=V;refine sv k z (DV my (T.agr (m.a00 (Enc.rd_lt E)) Ar) z k z z) λa k=>oE h λ_ D h=>TT k O z z z z z z (Z _ _ _ _ m.ext ⟨_,_,z,(ut (m.r A))⟩ D) λ_ _ Q=>?_;obtain ⟨rfl,e⟩:=Q;refine ⟨_,z,λa k=>?_⟩;have m:=m.step e;refine lJ 2 h k z (λh k=>?_) λh k=>?_
     · refine uc 12 k z λk=>fS h k m z z
     exact uc 8 k z λk=>⟨_,k.p z,m.f z,h⟩
   refine uc 11 k z λk=>fS h k m z z
 exact ⟨_,k.p z,m.f z,h⟩
theorem LN {fu A J L E O D r} (h:CR fu J L=some r) (M:rd A O [E] J) (N:Wn Tryz.prog A D L):cS 239 [E,D] A (.bool (r)):=by
 refine eg func239 z ntmps239 z λk m=>?_;obtain ⟨_,_,rfl,A,D⟩:=N;refine oE h λ_ E h=>uc 9 k z λk=>cC k m call264 z (MU E (m.r M) ⟨_,_,z,A,λw E A r e=>D w E A r (m.ext.trans e AD)⟩) λ_ e a k m=>ul 5 k z λk=>fS h k m z z
theorem dC {fu E J L M N r} (h:SB fu J L=some r) (O:rd E N [M] L):cS 183 [.agg (Flat.e (J)).toArray,M] E (.bool (r)):=by
 refine eg func183 z ntmps183 z λk m=>uc 2 k z λk=>AW m k z z z z z z λE _ a k m e D=>oE h λ_ J h=>gl 6 [bA m 0 D z] k z λk=>cC k m call130 z (Su J) λ_ e a k m=>pN 1 k z λa k=>bT h k 7 z (λh k=>?_) λh k=>?_
 · refine pN 2 k z λa k=>oE h λ_ J h=>cC k m call239 z (LN J (m.r O) ⟨240,[pt E],z,call240,λw _ _ r e A Q=>by obtain ⟨_,_,rfl,A⟩:=A; have m:=m.step e; exact bK fu _ _ A (m.y D 0 z) Q⟩) λ_ e a k m=>ul 6 k z λk=>fS h k m z z
 refine ul 9 k z λk=>fS h k m z z
theorem gk {fu T p1 Q v3 F4 r} (h:TQ fu p1 Q=some r) (Ak:rd T F4 [v3] Q):cL 112 [.agg (Flat.e (p1)).toArray,v3] T r:=by
 refine eg func112 z ntmps112 z λk m=>uc 2 k z λk=>AW m k z z z z z z λO V a k m e Bl=>oE h λ_ Fd h=>gl 8 [bA m 0 Bl z] k z λk=>cC k m call183 z (dC Fd (m.r Ak)) λ_ e a k m=>lJ 3 h k z (λh k=>?_) λh k=>?_
 · refine uc 7 k z λk=>?_;cases h;exact C7 k z (RV.tmp k z) ⟨_,[],z,m.ext,(A0 _),AD⟩
 refine uc 4 k z λk=>sB X1 m k z (by exact fN) λ_ _ _ a k m e Dk=>?_;have Fh:=QX (α:=Load) Dk;refine gl 12 [lF Ak] k z λk=>lG (λn a w=>∃ Ah Ax Y At J,K 92 [(2,pt O),(5,Ax),(15,v3),(16,I (Q.length:Int)),(17,I J)] a∧St [] T w [([O],V),(Y,At)]∧ow At Y [Ax] Ah∧C3 fu p1 Q n Ah J=some r) ?_ fu ?_
 · rintro Br a _ ⟨Ah,Ax,Y,At,J,k,m,M,h⟩;refine uJ 6 h k z (λh k=>?_) λh k=>?_
   · refine uc 2 k z λk=>cg (λa w=>∃ Ba Ay As Av,K 92 [(2,pt O),(5,Ay),(15,v3),(16,I (Q.length:Int)),(17,I J)] a∧St [] T w [([O],V),(As,Av)]∧ow Av As [Ay] Ba∧Ug fu (C3 fu p1 Q Br) J Ba=some r) ?_ ?_
     · rintro a _ ⟨Ba,Ay,As,Av,k,m,Eo,h⟩;exact uc 5 k z λk=>⟨_,_,_,_,_,k.p z,m.f z,Eo,h⟩
     refine oE h λZ By h=>gc 5 [iF Ak By] k z λk=>?_;obtain ⟨_,_,_,Ci,Fl,Ew⟩:=AR Ak (AG By).2.2;obtain ⟨_,_,rfl,rfl,Dh⟩:=Ci;refine sv k z (DV my (Fl.agr (m.a00 (Enc.rd_lt Ak)) Ew) z k z z) λa k=>AP m k zeroValue143 z z z z z λAp _ a k m e De=>pN 1 k z λa k=>sT sizeOf143 m 0 De 0 k z (AH (A5 Dh) (AH z (AH z (AH z DR)))) λAw a k e m Au=>gl 10 [lF (Enc.ow_rd M)] k z λk=>cg (λa w=>∃ Bi Bb Bc Bm Az,K 92 [(2,pt O),(5,Bb),(6,I J),(7,pt Ap),(8,I Az),(15,v3),(16,I (Q.length:Int)),(17,I J)] a∧St [] T w [([O],V),([Ap],Aw),(Bc,Bm)]∧ow Bm Bc [Bb] Bi∧ES fu (C3 fu p1 Q Br) J Z Bi Az=some r) ?_ ?_
     · rintro a _ ⟨Bi,Bb,Bc,Bm,Az,k,m,Be,h⟩;refine oE h λA L h=>gc 14 [iF (Enc.ow_rd Be) L] k z λk=>?_;obtain ⟨_,_,_,Df,Bn,Ee⟩:=AR (Enc.ow_rd Be) (AG L).2.2;obtain ⟨Dd,_,rfl,rfl,_⟩:=Df;refine gl 2 [pF ((Bn.agr (m.a 2 z) Ee).fld 0 1 (Nat.le_of_ble_eq_true z))] k z λk=>sB AV m k z (by exact fC z fN) λBd Bg _ a k m e Q=>?_;have Ch:=AO Q ([J]:List Int) z z z;obtain ⟨_,_,m,Ev,Cw⟩:=m.opn 3 z Be L Bn z (M':=[([Bd],Bg),([O],V),([Ap],Aw)]) z;obtain ⟨Fq,_,Co,rfl,J,_⟩:=Cw;obtain rfl:Dd=Fq:=by simpa using Co
       refine oE h λE Ez h=>BX Ez AV z m 1 J (News.rd (m.q Ch 2 z)) z z k z z z z z z z λBw Db Dj a k e m J=>ul 2 k z λk=>SU (α:=Load) (sz:=3) (cs':=[Bw,I A.fH,I A.fQ]) sizeOf64 m 0 Ev 0 k (CJ (Enc.ow_rd J)) (A5 (Enc.ow_rd J)) z z z z z z z z z z λ_ a k e m Cn=>?_;obtain ⟨Q,m,Aq⟩:=(m.sl [0,1,2,3,4] z).cls Cn (show ow Dj Db [Bw,I A.fH,I A.fQ] ((⟨E,A.fH,A.fQ⟩:Load):Load) from ⟨_,_,z,z,J,(m.ndF 1 z)⟩);refine ul 3 k z λk=>eQ (Q) hU m z λBz D=>?_;have m:=D;have s:=Ext.refl ((Q):List Nat) Bz;refine dM [0] 1 z k z s λa k=>dT k 1 z z s (λw s=>KW k z z) λa k=>dF k 2 eB z s λa k=>?_;obtain ⟨_,_,_,Cv,_,_⟩:=AR (Enc.ow_rd Aq) (AG (DH (⟨E,A.fH,A.fQ⟩:Load) L)).2.2;obtain ⟨_,_,rfl,rfl,_⟩:=Cv;refine dF k 4 ZB z s λa k=>?_;obtain ⟨_,_,_,Cp,_,_⟩:=AR (Enc.ow_rd Aq) (AG (DH (⟨E,A.fH,A.fQ⟩:Load) L)).2.2;obtain ⟨_,_,rfl,rfl,_⟩:=Cp;refine dT k 5 z z s (λw s=>A9 GP (r:=[]) (Au.at (D.az 3 0 z z z s) 2 1 z z z) k z z) λa k=>?_;obtain ⟨_,_,_,Cc,_,_⟩:=AR (Enc.ow_rd Aq) (AG (DH (⟨E,A.fH,A.fQ⟩:Load) L)).2.2;obtain ⟨_,_,rfl,rfl,_⟩:=Cc;refine dG 3 z ?_;obtain ⟨_,_,_,Em,Bv,Cg⟩:=AR (Enc.ow_rd Aq) (AG (DH (⟨E,A.fH,A.fQ⟩:Load) L)).2.2;obtain ⟨Bh,_,rfl,rfl,_⟩:=Em;refine gl 1 [pF ((Bv.agr (m.a 0 z) Cg).fld 1 1 (Nat.le_of_ble_eq_true z))] k z λk=>wpList_nil ⟨s,?_⟩;refine dM [6] 1 z k z s λa k=>dT k 7 z z s (λw s=>KW k z z) λa k=>dF k 8 eB z s λa k=>dG 9 z ?_;obtain ⟨_,Dq,m,Eu,Fe,Di,_⟩:=m.opnS 0 z Aq (DH (⟨E,A.fH,A.fQ⟩:Load) L) Bv z (M':=[([Bd],Bg),([O],V),([Ap],Aw)]) z;obtain ⟨Da,_,Fb,rfl,Ca,_⟩:=Fe;obtain rfl:Bh=Da:=by simpa using Fb
       refine TJ (α:=Load) (sz:=3) (cs':=[Bh,I (AK (((⟨E,A.fH,A.fQ⟩:Load).fH)+Z.fH)),I ((⟨E,A.fH,A.fQ⟩:Load).fQ)]) sizeOf3 m 0 Eu 1 k z z z z z z z z z (AH z DR) z z λ_ a k e m Q=>oE h λN J h=>?_;have Dm:=Option.some.inj J;obtain ⟨J,m,Am⟩:=(m.sl [0,1,2,3,4] z).cls Q (show ow Bz Dq [Bh,I (AK (((⟨E,A.fH,A.fQ⟩:Load).fH)+Z.fH)),I ((⟨E,A.fH,A.fQ⟩:Load).fQ)] N from Dm ▸ ⟨_,_,z,z,Ca,(m.ndF 1 z)⟩);refine oE h λ_ Ek h=>?_;have Q:=Option.some.inj Ek;have U:=DH N (DH (⟨E,A.fH,A.fQ⟩:Load) L);rw [Q] at Am U;refine nt (λy hy=>Or.inl (Di y hy)) s e λs=>dD ?_;refine (AF ?_);refine eQ (J) hU m z λBs D=>?_;have m:=D;have s:=Ext.refl ((J):List Nat) Bs;refine dM [0] 1 z k z s λa k=>dT k 1 z z s (λw s=>KW k z z) λa k=>dF k 2 ep z s λa k=>?_;obtain ⟨_,_,_,Ff,_,_⟩:=AR (Enc.ow_rd Am) (AG U).2.2;obtain ⟨_,_,rfl,rfl,_⟩:=Ff;refine dF k 4 ZO z s λa k=>?_;obtain ⟨_,_,_,Cs,_,_⟩:=AR (Enc.ow_rd Am) (AG U).2.2;obtain ⟨_,_,rfl,rfl,_⟩:=Cs;refine dT k 5 z z s (λw s=>A9 GP (r:=[]) (Au.at (D.az 3 0 z z z s) 3 1 z z z) k z z) λa k=>?_;obtain ⟨_,_,_,Ea,_,_⟩:=AR (Enc.ow_rd Am) (AG U).2.2;obtain ⟨_,_,rfl,rfl,_⟩:=Ea;refine dG 3 z ?_;obtain ⟨_,_,_,Dy,Bq,Do⟩:=AR (Enc.ow_rd Am) (AG U).2.2;obtain ⟨Bf,_,rfl,rfl,_⟩:=Dy;refine gl 1 [pF ((Bq.agr (m.a 0 z) Do).fld 2 1 (Nat.le_of_ble_eq_true z))] k z λk=>wpList_nil ⟨s,?_⟩;refine dM [6] 1 z k z s λa k=>dT k 7 z z s (λw s=>KW k z z) λa k=>dF k 8 ep z s λa k=>dG 9 z ?_;obtain ⟨_,Ck,m,Ej,En,Ef,_⟩:=m.opnS 0 z Am U Bq z (M':=[([Bd],Bg),([O],V),([Ap],Aw)]) z;obtain ⟨Dc,_,Fg,rfl,E,_⟩:=En;obtain rfl:Bf=Dc:=by simpa using Fg
       refine TJ (α:=Load) (sz:=3) (cs':=[Bf,I N.fH,I (AK (N.fQ+Z.fQ))]) sizeOf3 m 0 Ej 2 k z z z z z z z z z (AH z DR) z z λ_ a k e m A=>?_;obtain ⟨_,m,J⟩:=(m.sl [0,1,2,3,4] z).cls A (show ow Bs Ck [Bf,I N.fH,I (AK (N.fQ+Z.fQ))] ((⟨N.f0,N.fH,AK (N.fQ+Z.fQ)⟩:Load):Load) from ⟨_,_,z,z,E,(m.ndF 1 z)⟩);refine nt (λy hy=>Or.inl (Ef y hy)) s e λs=>dD ((ue 2 k z λk=>?_));exact ⟨_,_,_,_,k.p z,m.sl [2,0] z,J,h⟩
     refine uc 1 k z λk=>dI [] m z λD m s=>dM [0,1,2] 3 z k z s λa k=>Tz (decide ((AK ((Ah.length:Int) - 1))<0)) (λA=>?_) (λA=>?_)
     · have h:=Wp A h;refine rB k 27 z A λk=>dM [3,4,5,6,7,8,9,10,11,12,13,14,15,16,17,18,19,20,21,22,23,24,25,26,27] 25 z k z s λa k=>dD ?_;refine (AF ?_);refine uc 4 k z λk=>sv k z (AN aV k (cs:=#[.slice none 0 0,I 0,I 0]) (ps:=[]) z z AQ) λa k=>sB X1 m k z (by exact fC z fN) λ_ _ Gc a k m e E=>oE h λ_ L h=>?_;have m:=m.addNil (u:=T);have N:ow _ ([]) [.slice none 0 0,I 0,I 0] ((⟨[],0,0⟩:Load):Load):=(m.here λw=>⟨_,_,z,z,(A0 _),AD⟩)
       have J:=News.box E (m.a 1 z) AD (m:=1);have E:=m.a 4 z;have m:=m.sl [4,0,1,2,3] z;have m:=m.join2;exact D8 (F:=Y) (G:=([])) L X1 z m M E J N (Agr.refl _ _) k z z z z z z λ_ _ _ a k e m E=>ul 9 k z λk=>⟨_,_,_,_,_,k.p z,m.sl [3,2,0] z,E,h⟩
     have h:=Ws A h;refine rB k 27 z A λk=>oE h λ_ Bk h=>dr [3,4,5,6] 4 [iF (Enc.ow_rd M) Bk] k z s λk=>?_;obtain ⟨_,_,_,Fp,Bo,Bu⟩:=AR (Enc.ow_rd M) (AG Bk).2.2;obtain ⟨_,_,rfl,rfl,_⟩:=Fp;refine dT k 7 z z s (λw s=>A9 GP ((Bo.agr ((D.step s).a 2 z) Bu).fld 1 1 (Nat.le_of_ble_eq_true z)) k z z) λa k=>dr [8,9,10,11,12,13,14,15] 8 [bF D 0 Au z,bF D 1 Bl z] k z s λk=>bT h k 40 z (λh k=>?_) λh k=>?_
     · refine dM [16,17,18,19,20,21,22,23,24,25,26,27] 12 z k z s λa k=>dD ?_;refine (AF ?_);refine uc 4 k z λk=>sv k z (AN aV k (cs:=#[.slice none 0 0,I 0,I 0]) (ps:=[]) z z AQ) λa k=>sB X1 m k z (by exact fC z fN) λ_ _ _ a k m e J=>oE h λ_ E h=>?_;have m:=m.addNil (u:=T);have L:ow _ ([]) [.slice none 0 0,I 0,I 0] ((⟨[],0,0⟩:Load):Load):=(m.here λw=>⟨_,_,z,z,(A0 _),AD⟩)
       have A:=News.box J (m.a 1 z) AD (m:=1);have J:=m.a 4 z;have m:=m.sl [4,0,1,2,3] z;have m:=m.join2;exact D8 (F:=Y) (G:=([])) E X1 z m M J A L (Agr.refl _ _) k z z z z z z λ_ _ _ a k e m A=>ul 9 k z λk=>⟨_,_,_,_,_,k.p z,m.sl [3,2,0] z,A,h⟩
     refine oE h λ_ _ h=>dr [16,17,18,19] 4 [iF (Enc.ow_rd M) Bk] k z s λk=>dT k 20 z z s (λw s=>A9 GP ((Bo.agr ((D.step s).a 2 z) Bu).fld 2 1 (Nat.le_of_ble_eq_true z)) k z z) λa k=>dr [21,22,23,24,25,26,27] 7 [bF D 0 Au z,bF D 1 Bl z] k z s λk=>dD ?_;refine (AF ?_);refine cJ h k z (λh=>?_) λh=>?_
     · refine uc 3 k z λk=>sv k z (AN aV k (cs:=#[.slice none 0 0,I 0,I 0]) (ps:=[]) z z AQ) λa k=>sB X1 m k z (by exact fC z fN) λ_ _ _ a k m e E=>oE h λ_ D h=>?_;have m:=m.addNil (u:=T);have A:ow _ ([]) [.slice none 0 0,I 0,I 0] ((⟨[],0,0⟩:Load):Load):=(m.here λw=>⟨_,_,z,z,(A0 _),AD⟩)
       have J:=News.box E (m.a 1 z) AD (m:=1);have E:=m.a 4 z;have m:=m.sl [4,0,1,2,3] z;have m:=m.join2;exact D8 (F:=Y) (G:=([])) D X1 z m M E J A (Agr.refl _ _) k z z z z z z λ_ _ _ a k e m A=>ul 9 k z λk=>⟨_,_,_,_,_,k.p z,m.sl [3,2,0] z,A,h⟩
     exact uc 2 k z λk=>⟨_,_,_,_,_,k.p z,m.sl [1,0,2] z,M,h⟩
   exact uc 12 k z λk=>fL h k m M 1 z z
 exact ⟨_,_,_,_,_,k.p z,m.sl [1,0] z,Fh,h⟩
theorem eO {fu T V D U F4 r} (h:Pm fu V D=some r) (Ah:rd T F4 [U] D):cL 52 [.agg (Flat.e (V)).toArray,U] T r:=by
 refine eg func52 z ntmps52 z λk m=>uc 2 k z λk=>AW m k z z z z z z λ_ _ a k m e V=>oE h λ_ Eb h=>gl 8 [bA m 0 V z] k z λk=>cC k m call109 z (Zq Eb (m.r Ah)) λ_ e a k m=>lJ 3 h k z (λh k=>?_) λh k=>?_
 · refine uc 7 k z λk=>?_;cases h;exact C7 k z (RV.tmp k z) ⟨_,[],z,m.ext,(A0 _),AD⟩
 refine oE h λE Dc h=>gc 6 [bA m 0 V z] k z λk=>sL k m call110 z (gZ Dc (m.r Ah)) λBu Bm At Am k m=>oE h λL Dm h=>gl 7 [bA m 1 V z] k z λk=>sL k m call111 z (d0 Dm (m.q Am 0 z)) λBs Bi Bd Y k m=>oE h λ_ Eg h=>gl 7 [lF Ah] k z λk=>wg Eg XK z z m k z z z z z z λ_ _ a _ k m e Dj=>oE h λM Cr h=>gl 8 [bA m 3 V z] k z λk=>sL k m call112 z (gk Cr (m.q Y 1 z)) λBo Bl Be Az k m=>gl 5 [lF (Enc.ow_rd Az)] k z λk=>lG (λn a w=>∃ Bn V Av Br A,K 102 [(1,U),(5,Bm),(6,Bi),(7,V),(34,Bl),(35,I (M.length:Int)),(36,I A)] a∧St [] T w [(At,Bu),(Bd,Bs),(Be,Bo),(Av,Br)]∧ow Br Av [V] Bn∧B2 fu D E L M n Bn A=some r) ?_ fu ?_
 · rintro Bw a _ ⟨Bn,V,Av,Br,A,k,m,Cd,h⟩;refine uJ 6 h k z (λh k=>?_) λh k=>?_
   · refine oE h λQ V h=>gc 8 [iF (Enc.ow_rd Az) V] k z λk=>?_;obtain ⟨_,_,Da,Dd,Cx,Cv⟩:=AR (Enc.ow_rd Az) (AG V).2.2;obtain ⟨Bq,_,rfl,rfl,V⟩:=Dd;refine sv k z (DV vU (Cx.agr (m.a 2 z) Cv) z k z z) λa k=>AP m k zeroValue141 z z z z z λ_ _ a k m e Dx=>pN 1 k z λa k=>sT sizeOf141 m 0 Dx 0 k z (AH (A5 V) (AH z (AH z DR))) λ_ a k e m Cu=>gl 16 [bF m 0 Cu z,lF V] k z λk=>lG (λn a w=>∃ Ba Ay Bc Aq J O,K 102 [(1,U),(5,Bm),(6,Bi),(7,Ay),(8,I A),(10,I J),(34,Bl),(35,I (M.length:Int)),(36,I A),(42,Bq),(43,I (Q.f0.length:Int)),(44,I O)] a∧St [] T w [(At,Bu),(Bd,Bs),(Be,Bo),(Bc,Aq)]∧ow Aq Bc [Ay] Ba∧C6 fu (B2 fu D E L M Bw) D E L A Q n Ba J O=some r) ?_ fu ?_
     · rintro Ch a _ ⟨Ba,Ay,Bc,Aq,J,O,k,m,Bz,h⟩;refine uJ 6 h k z (λh k=>?_) λh k=>?_
       · refine o2 h λBf Ci Bh Cn h=>gc 23 [iF V Ci,eF (Enc.rd_agr V ((m.a 2 z).sub (λb Z=>Da b (Z)))) Ci 0,iF (Enc.ow_rd Y) Cn] k z λk=>?_;obtain ⟨_,_,Du,Ei,Dn,Dh⟩:=AR (Enc.ow_rd Y) (AG Cn).2.2;obtain ⟨Ca,_,rfl,rfl,By⟩:=Ei;refine gl 6 [pF ((Dn.agr (m.a 1 z) Dh).fld 0 1 (Nat.le_of_ble_eq_true z)),lF By] k z λk=>lG (λn a w=>∃ Ap V As Au N Ao,K 102 [(1,U),(5,Bm),(6,Bi),(7,V),(8,I A),(10,I J),(12,I Bf),(13,I N),(34,Bl),(35,I (M.length:Int)),(36,I A),(42,Bq),(43,I (Q.f0.length:Int)),(44,I O),(52,Ca),(53,I (Bh.fM.length:Int)),(54,I Ao)] a∧St [] T w [(At,Bu),(Bd,Bs),(Be,Bo),(As,Au)]∧ow Au As [V] Ap∧EK fu (C6 fu (B2 fu D E L M Bw) D E L A Q Ch) D E L A J O Bf Bh n Ap N Ao=some r) ?_ fu ?_
         · rintro Dw a _ ⟨Ap,V,As,Au,N,Ao,k,m,Co,h⟩;refine uJ 6 h k z (λh k=>?_) λh k=>?_
           · refine o2 h λCe Cl Cj V h=>gc 23 [iF By Cl,eF (Enc.rd_agr By ((m.a 1 z).sub (λb Z=>Du b (Z)))) Cl 0,iF (Enc.ow_rd Am) V] k z λk=>?_;obtain ⟨_,_,Dp,Dt,Dz,Ec⟩:=AR (Enc.ow_rd Am) (AG V).2.2;obtain ⟨Ek,_,rfl,rfl,Bv⟩:=Dt;refine gl 6 [pF ((Dz.agr (m.a 0 z) Ec).fld 0 1 (Nat.le_of_ble_eq_true z)),lF Bv] k z λk=>lG (λn a w=>∃ Aw Ar Bb Bg V Bj,K 102 [(1,U),(5,Bm),(6,Bi),(7,Ar),(8,I A),(10,I J),(12,I Bf),(13,I N),(15,I Ce),(16,I V),(34,Bl),(35,I (M.length:Int)),(36,I A),(42,Bq),(43,I (Q.f0.length:Int)),(44,I O),(52,Ca),(53,I (Bh.fM.length:Int)),(54,I Ao),(62,Ek),(63,I (Cj.f7.length:Int)),(64,I Bj)] a∧St [] T w [(At,Bu),(Bd,Bs),(Be,Bo),(Bb,Bg)]∧ow Bg Bb [Ar] Aw∧JC fu (EK fu (C6 fu (B2 fu D E L M Bw) D E L A Q Ch) D E L A J O Bf Bh Dw) D E A J N Ao Ce Cj n Aw V Bj=some r) ?_ fu ?_
             · rintro _ a _ ⟨Aw,Ar,Bb,Bg,V,Bj,k,m,Bx,h⟩;refine uJ 6 h k z (λh k=>?_) λh k=>?_
               · exact oE h λ_ D h=>gc 19 [iF Bv D,eF (Enc.rd_agr Bv ((m.a 0 z).sub (λb Z=>Dp b (Z)))) D 0] k z λk=>sv k z (AN ZW k (cs:=#[I A,I V,I N,I J]) (ps:=[(0,.tmp 70),(1,.tmp 71),(2,.tmp 72),(3,.tmp 73)]) z z AQ) λa k=>oE h λ_ D h=>gl 1 [iF (Enc.ow_rd Bx) D] k z λk=>Yq (α:=Spot) (sz:=4) (y:=(⟨A,V,N,J⟩:Spot)) sizeOf68 D m 3 Bx 0 k z z z z z z z z z z z z λ_ a k e m D=>oE h λ_ A h=>gl 19 [iF Ah A,eF (m.r Ah) A 0] k z λk=>⟨_,_,_,_,_,_,k.p z,m.f z,D,h⟩
               refine oE h λ_ A h=>gc 11 [iF (Enc.ow_rd Am) A] k z λk=>?_;obtain ⟨_,_,Ez,De,Dl,Do⟩:=AR (Enc.ow_rd Am) (AG A).2.2;obtain ⟨_,_,rfl,rfl,_⟩:=De;exact gl 11 [pF ((Dl.agr (m.a 0 z) Do).fld 2 1 (Nat.le_of_ble_eq_true z))] k z λk=>⟨_,_,_,_,_,_,k.p z,m.f z,Bx,h⟩
             exact ⟨_,_,_,_,_,_,k.p z,m.f z,Co,h⟩
           refine oE h λ_ A h=>gc 11 [iF (Enc.ow_rd Y) A] k z λk=>?_;obtain ⟨_,_,_,Ed,Ef,Ds⟩:=AR (Enc.ow_rd Y) (AG A).2.2;obtain ⟨_,_,rfl,rfl,_⟩:=Ed;exact gl 11 [pF ((Ef.agr (m.a 1 z) Ds).fld 2 1 (Nat.le_of_ble_eq_true z))] k z λk=>⟨_,_,_,_,_,_,k.p z,m.f z,Co,h⟩
         exact ⟨_,_,_,_,_,_,k.p z,m.f z,Bz,h⟩
       exact uc 11 k z λk=>⟨_,_,_,_,_,k.p z,m.f z,Bz,h⟩
     exact ⟨_,_,_,_,_,_,k.p z,m.sl [1,2,3,4] z,Cd,h⟩
   exact uc 12 k z λk=>fL h k m Cd 3 z z
 exact ⟨_,_,_,_,_,k.p z,m.sl [3,2,0,1] z,Dj,h⟩
theorem Y2 {fu E A J D r} (h:LH fu A=some r) (M:rd E D [J] A):cS 53 [J] E (I r):=by
 refine eg func53 z ntmps53 z λk m=>gc 19 [lF M] k z λk=>lG (λn a w=>∃ L D,K 22 [(3,I L),(6,J),(7,I (A.length:Int)),(8,I D)] a∧St [] E w []∧GV fu A n L D=some r) ?_ fu ?_
 · rintro N a _ ⟨L,D,k,m,h⟩;refine uJ 6 h k z (λh k=>?_) λh k=>?_
   · refine uc 2 k z λk=>cg (λa w=>∃ L,K 22 [(3,I L),(6,J),(7,I (A.length:Int)),(8,I D)] a∧St [] E w []∧NU fu (GV fu A N) D L=some r) ?_ ?_
     · rintro a _ ⟨L,k,m,h⟩;exact uc 5 k z λk=>⟨_,_,k.p z,m.f z,h⟩
     refine oE h λ_ A h=>gc 5 [iF M A,eA (m.r M) A] k z λk=>AP m k zeroValue68 z z z z z λ_ _ a k m e A=>sT sizeOf68 m 0 A 0 k z z λ_ a k e m A=>oE h λ_ D h=>gl 6 [bF m 0 A z] k z λk=>cC k m call91 z (BA D) λ_ e a k m=>lJ 2 h k z (λh k=>?_) λh k=>?_
     · exact gc 10 [bF m 0 A z] k z λk=>⟨_,k.p z,m.f z,h⟩
     exact uc 3 k z λk=>⟨_,k.p z,m.f z,h⟩
   refine uc 12 k z λk=>fS h k m z z
 exact ⟨_,_,k.p z,m.f z,h⟩
theorem iH {fu J O Z F3 r} (h:Wc fu O=some r) (Eb:rd J F3 Z O):Calls Tryz.prog 22 #[.agg Z.toArray] J λe w=>∃ (Z:List Value) (G0:List Nat),e=.returned (.tuple #[.agg Z.toArray,.bool (r.2)])∧Ext [] J w∧ow w G0 Z r.1∧(∀ b∈G0,J.heap.size≤b):=by
 refine eg (vs:=[_]) func22 z ntmps22 z λk m=>?_;obtain ⟨_,_,_,_,_,Ez,rfl,rfl,Ak,Al,Af⟩:=Eb;refine uc 2 k z λk=>AW m k z z z z z z λQ Ba a k m e Y=>AP m k zeroValue43 z z z z z λM Bk a k m e Ce=>oE h λ_ Z h=>gl 7 [bA m 1 Y z] k z λk=>cC k m call48 z (JW Z (AE (m.r Ak) (m.r Al) (m.r Af))) λ_ e a k m=>lJ 3 h k z (λh k=>?_) λh k=>?_
 · refine uc 2 k z λk=>sv k z (AN be k (cs:=#[.slice none 0 0,.slice none 0 0]) (ps:=[]) z z AQ) λa k=>sT sizeOf43 m 0 Ce 0 k z z λ_ a k e m Z=>ul 5 k z λk=>?_;cases h;exact B4 k z (RV.cA k z YH (Z.at (m.a 0 z) 0 2 z z z) z) (RV.tmp k z) ⟨_,_,z,m.ext,⟨_,[],_,[],z,z,(A0 _),(A0 _),by simpa [EC] using (m.sl [] z).nd⟩,(A3 AD AD)⟩
 refine oE h λL Z h=>gc 5 [bA m 1 Y z] k z λk=>sL k m call49 z (ci Z (AE (m.r Ak) (m.r Al) (m.r Af))) λBh V Ar T k m=>sv k z (AN be k (cs:=#[V,.slice none 0 0]) (ps:=[(0,.tmp 19)]) z z (CU z (CJ (Enc.ow_rd T)) z z)) λa k=>AP m k zeroValue43 z z z z z λD _ a k m e Z=>sT sizeOf43 m 0 Z 0 k z (AH (A5 (Enc.ow_rd T)) (AH z DR)) λ_ a k e m Dl=>oE h λN Z h=>gl 11 [bA m 3 Y z] k z λk=>sL k m call50 z (Sh Z (AE (m.r Ak) (m.r Al) (m.r Af))) λ_ _ _ Z k m=>gl 5 [lF (Enc.ow_rd Z)] k z λk=>lG (λn a w=>∃ Aq Z U Au As E A,K 75 [(1,pt Q),(2,pt M),(4,pt D),(5,I E),(23,I (N.length:Int)),(24,I A)] a∧St [] J w [([Q],Ba),([M],Bk),(U,Au),([D],As),(Ar,Bh)]∧ow Au U [Z] Aq∧bx As D [V,Z] 43∧CZ fu O L N n Aq E A=some r) ?_ fu ?_
 · rintro Bs a _ ⟨Aq,Z,U,Au,As,E,A,k,m,Br,Bq,h⟩;refine uJ 6 h k z (λh k=>?_) λh k=>?_
   · refine uc 12 k z λk=>sB kd m k z (by exact fN) λ_ _ _ a k m e Z=>?_;have Co:=AO Z ([]:List Box) z z z;refine gl 13 [bF m 4 Bq z,lF (Enc.ow_rd T)] k z λk=>lG (λn a w=>∃ Be Bn Bl Bc Z,K 75 [(1,pt Q),(2,pt M),(4,pt D),(5,I E),(6,I A),(7,Bn),(23,I (N.length:Int)),(24,I A),(29,V),(30,I (L.length:Int)),(31,I Z)] a∧St [] J w [([Q],Ba),([M],Bk),([D],As),(Ar,Bh),(U,Au),(Bl,Bc)]∧ow Bc Bl [Bn] Be∧H4 fu (CZ fu O L N Bs) O L Aq E A n Be Z=some r) ?_ fu ?_
     · rintro Dd a _ ⟨Be,Bn,Bl,Bc,Z,k,m,Bt,h⟩;refine uJ 6 h k z (λh k=>?_) λh k=>?_
       · refine uc 2 k z λk=>cg (λa w=>∃ Bo Bb Bg Bm,K 75 [(1,pt Q),(2,pt M),(4,pt D),(5,I E),(6,I A),(7,Bb),(23,I (N.length:Int)),(24,I A),(29,V),(30,I (L.length:Int)),(31,I Z)] a∧St [] J w [([Q],Ba),([M],Bk),([D],As),(Ar,Bh),(U,Au),(Bg,Bm)]∧ow Bm Bg [Bb] Bo∧PA fu (H4 fu (CZ fu O L N Bs) O L Aq E A Dd) Z Bo=some r) ?_ ?_
         · rintro a _ ⟨Bo,Bb,Bg,Bm,k,m,Z,h⟩;exact uc 5 k z λk=>⟨_,_,_,_,_,k.p z,m.f z,Z,h⟩
         refine oE h λ_ Z h=>gc 4 [iF (Enc.ow_rd T) Z] k z λk=>?_;obtain ⟨_,_,Dj,Dm,Eh,Eg⟩:=AR (Enc.ow_rd T) (AG Z).2.2;obtain ⟨_,_,rfl,rfl,Ck⟩:=Dm;refine sv k z (DV OJ (Eh.agr (m.a 3 z) Eg) z k z z) λa k=>AP m k zeroValue66 z z z z z λ_ _ a k m e Z=>sT sizeOf66 m 0 Z 0 k z (AH z (AH z (AH (A5 Ck) DR))) λ_ a k e m Z=>hJ 10 [bF m 0 Z z] h k z (λh k=>?_) λh k=>?_
         · refine oE h λAy Dp h=>gc 4 [bA m 1 Y z,bA m 0 Z z] k z λk=>cC k m call51 z (aM Dp (AE (m.r Ak) (m.r Al) (m.r Af)) (I1 (Enc.rd_agr Ck ((m.a 4 z).sub (λb Z=>Dj b (Z)))))) λ_ e a k m=>sB kd m k z (by exact fC z fN) λ_ _ _ a k m e Z=>?_;have Dw:=AO Z ([Ay]:List Box) z z z;exact oE h λ_ Z h=>BX Z kd z m 7 Bt (News.rd (m.q Dw 0 z)) z z k z z z z z z z λ_ _ _ a k e m Z=>ul 4 k z λk=>⟨_,_,_,_,k.p z,m.sl [2,3,4,5,6,7] z,Z,h⟩
         exact uc 3 k z λk=>⟨_,_,_,_,k.p z,m.sl [1,2,3,4,5,6] z,Bt,h⟩
       refine oE h λCj Z h=>gc 10 [bA m 0 Y z] k z λk=>sL k m call52 z (eO Z (m.q Bt 5 z)) λCx Ei Ca Y k m=>oE h λBx Z h=>ul 6 k z λk=>cC k m call53 z (Y2 Z (m.q Y 0 z)) λ_ e a k m=>gl 12 [lF (Enc.ow_rd Y)] k z λk=>lG (λn a w=>∃ Az Bd Bi Bp Z Bf,K 75 [(1,pt Q),(2,pt M),(4,pt D),(5,I E),(11,I Bx),(23,I (N.length:Int)),(24,I A),(52,Ei),(53,I (Cj.length:Int)),(54,I Bf)] a∧St [] J w [([Q],Ba),([M],Bk),(Bi,Bp),([D],Z),(Ar,Bh),(Ca,Cx)]∧ow Bp Bi [Bd] Az∧bx Z D [V,Bd] 43∧IQ fu (CZ fu O L N Bs) E A Cj Bx n Az Bf=some r) ?_ fu ?_
       · rintro _ a _ ⟨Az,Bd,Bi,Bp,Z,Bf,k,m,L,D,h⟩;refine uJ 6 h k z (λh k=>?_) λh k=>?_
         · refine oE h λA M h=>gc 8 [iF (Enc.ow_rd Y) M,eA (m.q Y 5 z) M] k z λk=>AP m k zeroValue68 z z z z z λ_ _ a k m e M=>sT sizeOf68 m 0 M 0 k z z λ_ a k e m M=>gl 9 [bF m 0 M z] k z λk=>sT sizeOf3 m 0 M 0 k z z λ_ a k e m M=>gl 6 [bF m 4 D z,bA m 0 M z] k z λk=>sB XK m k z (by exact fC z fN) λ_ _ _ a k m e N=>?_;have M:=AO N ([(⟨AK (A.fJ+E),A.fX,A.fY,A.fZ⟩:Spot)]:List Spot) z z z;exact oE h λ_ A h=>BX A XK z m 4 L (News.rd (m.q M 0 z)) z z k z z z z z z z λE _ _ a k e m A=>sv k z (MV SJ k z z) λa k=>CM (cs':=[V,E]) sizeOf41 m 5 D 1 k (CJ (Enc.ow_rd A)) (A5 (Enc.ow_rd A)) z z z z z z z z z λ_ a k e m E=>ul 8 k z λk=>⟨_,_,_,_,_,_,k.p z,m.sl [2,3,4,5,6,7] z,A,E,h⟩
         exact uc 18 k z λk=>⟨_,_,_,_,_,_,_,k.p z,m.f z,L,D,h⟩
       exact ⟨_,_,_,_,_,_,k.p z,m.sl [1,2,5,3,4,0] z,Br,Bq,h⟩
     exact ⟨_,_,_,_,_,k.p z,m.sl [1,2,4,5,3,0] z,Co,h⟩
   refine gc 8 [bA m 3 Bq z] k z λk=>sT sizeOf43 m 1 Ce 0 k z (AH (A5 (Enc.ow_rd T)) (AH (A5 (Enc.ow_rd Br)) DR)) λ_ a k e m A=>ul 4 k z λk=>?_;cases h;exact B4 k z (RV.cA k z YH (A.at (m.a 1 z) 0 2 z z z) z) (RV.tmp k z) ⟨_,_,z,m.ext,⟨_,Ar,_,U,z,z,(m.v T 4 z),(m.v Br 2 z),by simpa [EC] using (m.sl [4,2] z).nd⟩,(A3 (m.fresh 4 z) (m.fresh 2 z))⟩
 exact ⟨_,_,_,_,_,_,_,k.p z,(m.addNil (u:=J)).sel [5,4,0,2,3] z A1,(A0 _),Dl,h⟩
theorem br {fu L E A J r} (h:NM fu E=some r) (D:rd L J [A] E):cS 92 [A] L (.bool (r)):=by
 refine eg func92 z ntmps92 z λk m=>gc 14 [lF D] k z λk=>lG (λn a w=>∃ J,K 32 [(0,A),(5,A),(6,I (E.length:Int)),(7,I J)] a∧St [] L w []∧E5 fu E n J=some r) ?_ fu ?_
 · rintro M a _ ⟨J,k,m,h⟩;refine uJ 6 h k z (λh k=>?_) λh k=>?_
   · refine uc 2 k z λk=>cg (λa w=>K 32 [(0,A),(5,A),(6,I (E.length:Int)),(7,I J)] a∧St [] L w []∧KT fu (E5 fu E M) J=some r) ?_ ?_
     · rintro a _ ⟨k,m,h⟩;exact uc 5 k z λk=>⟨_,k.p z,m.f z,h⟩
     refine o2 h λ_ A _ E h=>gc 13 [iF D A,eF (m.r D) A 0] k z λk=>cC k m call91 z (BA E) λ_ e a k m=>pN 2 k z λa k=>bT h k 15 z (λh k=>?_) λh k=>?_
     · refine ul 26 k z λk=>fS h k m z z
     refine pN 3 k z λa k=>bT h k 18 z (λh k=>?_) λh k=>?_
     · refine oE h λ_ A h=>hJ 11 [iF D A,eF (m.r D) A 0] h k z (λh k=>?_) λh k=>?_
       · refine uc 11 k z λk=>fS h k m z z
       exact uc 3 k z λk=>⟨k.p z,m.f z,h⟩
     exact ul 15 k z λk=>⟨k.p z,m.f z,h⟩
   refine gc 14 [lF D] k z λk=>fS h k m z z
 exact ⟨_,k.p z,m.f z,h⟩
theorem DW {fu A n1 r} (h:CS fu n1=some r):cS 93 [I n1] A (.bool (r)):=by
 refine eg func93 z ntmps93 z λk m=>oE h λ_ A h=>uc 8 k z λk=>cC k m call91 z (BA A) λ_ e a k m=>ul 4 k z λk=>fS h k m z z
theorem X5 {fu J A D O r} (h:K6 fu A=some r) (L:rd J O D A):cS 34 [.agg D.toArray] J (.bool (r)):=by
 refine eg func34 z ntmps34 z λk m=>?_;obtain ⟨Q,_,_,_,rfl,rfl,E,N⟩:=L;refine uc 2 k z λk=>AW m k z z z z z z λD O a k m e M=>ul 3 k z λk=>cg (λa w=>K 73 [(1,pt D)] a∧St [] J w [([D],O)]∧VL fu A=some r) ?_ ?_
 · rintro a _ ⟨k,m,h⟩;refine gc 10 [bF m 0 M z,lF E] k z λk=>lG (λn a w=>∃ L,K 73 [(1,pt D),(20,Q),(21,I (A.fV.length:Int)),(22,I L)] a∧St [] J w [([D],O)]∧IF fu A n L=some r) ?_ fu ?_
   · rintro V a _ ⟨L,k,m,h⟩;refine uJ 6 h k z (λh k=>?_) λh k=>?_
     · refine uc 2 k z λk=>cg (λa w=>K 73 [(1,pt D),(20,Q),(21,I (A.fV.length:Int)),(22,I L)] a∧St [] J w [([D],O)]∧VO fu (IF fu A V) L=some r) ?_ ?_
       · rintro a _ ⟨k,m,h⟩;exact uc 5 k z λk=>⟨_,k.p z,m.f z,h⟩
       refine oE h λ_ A h=>gc 5 [iF E A] k z λk=>?_;obtain ⟨_,_,_,Y,T,U⟩:=AR E (AG A).2.2;obtain ⟨_,_,rfl,rfl,J⟩:=Y;refine sv k z (DV OJ (T.agr (m.a00 (Enc.rd_lt E)) U) z k z z) λa k=>AP m k zeroValue66 z z z z z λ_ _ a k m e A=>pN 1 k z λa k=>sT sizeOf66 m 0 A 0 k z (AH z (AH z (AH (A5 J) DR))) λ_ a k e m D=>oE h λ_ A h=>gl 9 [bF m 1 M z,iF N A,eA (m.r N) A] k z λk=>AP m k zeroValue68 z z z z z λ_ _ a k m e A=>sT sizeOf68 m 0 A 0 k z z λ_ a k e m A=>oE h λ_ L h=>gl 6 [bF m 1 D z] k z λk=>cC k m call91 z (BA L) λ_ e a k m=>pN 2 k z λa k=>bT h k 36 z (λh k=>?_) λh k=>?_
       · refine ul 49 k z λk=>fS h k m z z
       refine oE h λ_ L h=>gl 2 [bF m 1 D z] k z λk=>cC k m call91 z (BA L) λ_ e a k m=>pN 3 k z λa k=>bT h k 42 z (λh k=>?_) λh k=>?_
       · refine ul 43 k z λk=>fS h k m z z
       refine oE h λ_ L h=>gl 2 [bF m 1 D z] k z λk=>cC k m call92 z (br L (m.r J)) λ_ e a k m=>pN 3 k z λa k=>bT h k 48 z (λh k=>?_) λh k=>?_
       · refine ul 37 k z λk=>fS h k m z z
       refine oE h λ_ D h=>gl 2 [bF m 0 A z] k z λk=>cC k m call93 z (DW D) λ_ e a k m=>pN 3 k z λa k=>bT h k 54 z (λh k=>?_) λh k=>?_
       · refine ul 31 k z λk=>fS h k m z z
       refine oE h λ_ D h=>gl 2 [bF m 0 A z] k z λk=>cC k m call93 z (DW D) λ_ e a k m=>pN 3 k z λa k=>bT h k 60 z (λh k=>?_) λh k=>?_
       · refine ul 25 k z λk=>fS h k m z z
       refine oE h λ_ D h=>gl 2 [bF m 0 A z] k z λk=>cC k m call93 z (DW D) λ_ e a k m=>pN 3 k z λa k=>bT h k 66 z (λh k=>?_) λh k=>?_
       · refine ul 19 k z λk=>fS h k m z z
       refine oE h λ_ D h=>gl 2 [bF m 0 A z] k z λk=>cC k m call93 z (DW D) λ_ e a k m=>lJ 4 h k z (λh k=>?_) λh k=>?_
       · refine uc 11 k z λk=>fS h k m z z
       exact uc 3 k z λk=>⟨k.p z,m.sl [2] z,h⟩
     refine uc 11 k z λk=>fS h k m z z
   exact ⟨_,k.p z,m.f z,h⟩
 refine gc 10 [bF m 0 M z,lF N,bF m 0 M z,lF E] k z λk=>bT h k 13 z (λh k=>?_) λh k=>?_
 · refine ul 15 k z λk=>fS h k m z z
 refine hJ 7 [bF m 0 M z,lF E] h k z (λh k=>?_) λh k=>?_
 · refine uc 7 k z λk=>fS h k m z z
 exact uc 2 k z λk=>⟨k.p z,m.f z,h⟩
theorem dL {fu A E D M J r} (h:MF fu E D=some r) (N:Te Tryz.prog A) (L:rd A J [M] D):cS 35 [.string (E),M] A (.tuple #[.string (r.1),.bool (r.2)]):=by
 refine eg func35 z ntmps35 z λk m=>gc 21 [lF L] k z λk=>lG (λn a w=>∃ J E,K 27 [(6,.string (J)),(10,M),(11,I (D.length:Int)),(12,I E)] a∧St [] A w []∧GC fu D n J E=some r) ?_ fu ?_
 · rintro _ a _ ⟨J,E,k,m,h⟩;refine uJ 6 h k z (λh k=>?_) λh k=>?_
   · refine o2 h λ_ A _ D h=>gc 15 [iF L A,eF (m.r L) A 0] k z λk=>cC k m call91 z (BA D) λ_ e a k m=>lJ 3 h k z (λh k=>?_) λh k=>?_
     · refine uc 13 k z λk=>?_;cases h;exact B4 k z (RV.tmp k z) (RV.tmp k z) ⟨z,m.ext⟩
     exact oE h λ_ A h=>uc 5 k z λk=>cC k m call94 z (ZY A (m.te N)) λ_ e a k m=>oE h λ_ A h=>sv k z (TK A k z z z) λa k=>oE h λ_ A h=>sv k z (TK A k z z z) λa k=>ul 9 k z λk=>⟨_,_,k.p z,m.f z,h⟩
   refine oE h λ_ A h=>uc 8 k z λk=>sv k z (TK A k z z z) λa k=>ul 5 k z λk=>?_;cases h;exact B4 k z (RV.tmp k z) (RV.tmp k z) ⟨z,m.ext⟩
 exact ⟨_,_,k.p z,m.f z,h⟩
theorem YR {fu E D M Q r} (h:MC fu D=some r) (Y:Te Tryz.prog E) (N:rd E Q M D):cS 14 [.agg M.toArray] E (.string (r)):=by
 refine eg func14 z ntmps14 z λk m=>?_;obtain ⟨v5,_,_,_,rfl,rfl,A,J⟩:=N;refine uc 2 k z λk=>AW m k z z z z z z λQ T a k m e L=>oE h λ_ M h=>gl 7 [bA m 0 L z] k z λk=>cC k m call34 z (X5 M (GO (m.r A) (m.r J))) λ_ e a k m=>lJ 3 h k z (λh k=>?_) λh k=>?_
 · refine uc 7 k z λk=>fS h k m z z
 refine gc 17 [bF m 0 L z,lF A] k z λk=>lG (λn a w=>∃ N M,K 50 [(1,pt Q),(3,.string (N)),(13,v5),(14,I (D.fV.length:Int)),(15,I M)] a∧St [] E w [([Q],T)]∧E8 fu D n N M=some r) ?_ fu ?_
 · rintro _ a _ ⟨N,M,k,m,h⟩;refine uJ 6 h k z (λh k=>?_) λh k=>?_
   · refine oE h λO D h=>gc 8 [iF A D] k z λk=>?_;obtain ⟨_,_,_,U,V,Z⟩:=AR A (AG D).2.2;obtain ⟨_,_,rfl,rfl,M⟩:=U;refine sv k z (DV OJ (V.agr (m.a00 (Enc.rd_lt A)) Z) z k z z) λa k=>AP m k zeroValue66 z z z z z λ_ _ a k m e A=>pN 1 k z λa k=>sT sizeOf66 m 0 A 0 k z (AH z (AH z (AH (A5 M) DR))) λ_ a k e m E=>oE h λA D h=>gl 9 [bF m 1 L z,iF J D,eA (m.r J) D] k z λk=>AP m k zeroValue68 z z z z z λ_ _ a k m e D=>sT sizeOf68 m 0 D 0 k z z λ_ a k e m D=>gl 16 [bF m 1 E z,bF m 1 E z,bF m 0 D z,bF m 0 D z,bF m 0 D z,bF m 0 D z] k z λk=>sB AV m k z (by exact fC z (fC z (fC z (fC z (fC z (fC z fN)))))) λ_ _ _ a k m e J=>?_;have D:=AO J ([O.f8,O.fF,A.fJ,A.fX,A.fY,A.fZ]:List Int) z z z;exact oE h λ_ A h=>gl 2 [bF m 2 E z] k z λk=>BX A AV z m 0 D (News.rd (m.r M)) z z k z z z z z z z λ_ _ _ a k e m D=>oE h λ_ A h=>cC k m call35 z (dL A (m.te Y) (m.q D 0 z)) λ_ e a k m=>oE h λ_ A h=>ul 10 k z λk=>sv k z (TK A k z z z) λa k=>ul 9 k z λk=>⟨_,_,k.p z,m.sl [3] z,h⟩
   refine uc 12 k z λk=>fS h k m z z
 exact ⟨_,_,k.p z,m.f z,h⟩
theorem mq {fu L J r} (h:XU fu J=some r) (D:Te Tryz.prog L):cS 6 [.string (J)] L (.tuple #[.string (r.1),I r.2]):=by
 refine eg func6 z ntmps6 z λk m=>oE h λ_ J h=>uc 9 k z λk=>cC k m call8 z (Xz J (m.te D)) λ_ e a k m=>lJ 10 h k z (λh k=>?_) λh k=>?_
 · refine uc 9 k z λk=>?_;cases h;exact B4 k z (RV.tmp k z) (RV.tmp k z) ⟨z,m.ext⟩
 refine oE h λ_ J h=>uc 5 k z λk=>sC k call11 z (PL J (m.te D)) λ_ _ A=>?_;obtain ⟨_,_,rfl,e,M,J⟩:=A;refine ⟨_,z,λa k=>?_⟩;have m:=m.nw e J M;obtain ⟨_,_,_,_,_,_,rfl,rfl,N,J,L,_⟩:=M;have m:=m.split2;have m:=m.split2at1;refine pN 3 k z λa k=>AP m k zeroValue37 z z z z z λ_ _ a k m e M=>sT sizeOf37 m 0 M 0 k z (AH z (AH z (AH z (AH z (AH z (AH z (AH (A5 (Enc.ow_rd N)) (AH (A5 (Enc.ow_rd J)) (AH z (AH (A5 (Enc.ow_rd L)) DR)))))))))) λ_ a k e m M=>gl 6 [bA m 0 M z] k z λk=>oE h λ_ M h=>sC k call22 z (iH M (AE (m.q N 1 z) (m.q J 2 z) (m.q L 3 z))) λ_ _ A=>?_;obtain ⟨_,_,rfl,e,E,J⟩:=A;refine ⟨_,z,λa k=>?_⟩;have m:=m.nw e J E;obtain ⟨_,_,_,_,rfl,rfl,A,J,_⟩:=E;have m:=m.split2;refine pN 3 k z λa k=>AP m k zeroValue43 z z z z z λ_ _ a k m e E=>sT sizeOf43 m 0 E 0 k z (AH (A5 (Enc.ow_rd A)) (AH (A5 (Enc.ow_rd J)) DR)) λ_ a k e m E=>oE h λ_ L h=>gl 6 [bA m 0 E z] k z λk=>cC k m call14 z (YR L (m.te D) (GO (m.q A 1 z) (m.q J 2 z))) λ_ e a k m=>ul 5 k z λk=>?_;cases h;exact B4 k z (RV.tmp k z) (RV.tmp k z) ⟨z,m.ext⟩
theorem iW {fu A D r} (h:Wj fu D=some r) (L:Te Tryz.prog A):Calls Tryz.prog 33 #[.string (D)] A λe w=>∃ (D:List Value) (E:List Nat),e=.returned (.tuple #[.agg D.toArray,.agg (Flat.e r.2.1).toArray,.bool (r.2.2)])∧Ext [] A w∧ow w E D r.1∧(∀ b∈E,A.heap.size≤b):=by
 refine eg (vs:=[_]) func33 z ntmps33 z λk m=>uc 2 k z λk=>AP m k zeroValue66 z z z z z λM w4 a k m e T=>AP m k zeroValue68 z z z z z λN w7 a k m e U=>oE h λ_ D h=>ul 6 k z λk=>sL k m call30 z (Xj D) λ_ _ _ E k m=>oE h λAs D h=>gl 9 [lF (Enc.ow_rd E)] k z λk=>sC k call90 z (KC D (m.te L)) λ_ Z J=>?_;obtain ⟨Bi,Q,rfl,e,D,E⟩:=J;refine ⟨_,z,λa k=>?_⟩;have m:=m.nw e E D;refine ul 7 k z λk=>cg (λa w=>K 61 [(2,pt M),(3,pt N),(6,Bi)] a∧St [] A w [([M],w4),([N],w7),(Q,Z)]∧VW fu As=some r) ?_ ?_
 · rintro a _ ⟨k,m,h⟩;refine cg (λa w=>∃ E J L V O Y,K 61 [(2,pt M),(3,pt N),(6,Bi),(8,pt O)] a∧St [] A w [([M],w4),([N],w7),(Q,Z),([O],Y)]∧ow Z Q [V] L∧bx Y O [I E,I J,V] 66∧VG fu As E J L=some r) ?_ ?_
   · rintro a _ ⟨E,J,L,V,O,Y,k,m,Aq,Bl,h⟩;refine uc 1 k z λk=>dI [] m z λA m s=>o2 h λY Ba Z Ay h=>o2 h λAg Bg O Be h=>dr [0,3,6,9,1,2,4,5,7,8,10,11] 12 [iF (Enc.ow_rd D) Ba,eF (A.q D 2 z) Ba 0,iF (Enc.ow_rd D) Ay,eF (A.q D 2 z) Ay 0,iF (Enc.ow_rd D) Bg,eF (A.q D 2 z) Bg 0,iF (Enc.ow_rd D) Be,eF (A.q D 2 z) Be 0] k z s λk=>dT k 12 z z s (λw s=>AN ZW k (cs:=#[I Y,I Z,I Ag,I O]) (ps:=[(0,.tmp 39),(1,.tmp 42),(2,.tmp 45),(3,.tmp 48)]) z z AQ) λa k=>dG 13 z ?_;refine BU (cs:=[I 0,I 0,I 0,I 0]) m k zeroValue68 z z z z z λ_ _ a k m e Cs Cc=>?_;have Bv:=s.lo Cc;refine ns s e λs=>dG 14 z (sT sizeOf68 m 0 Cs 0 k z z λ_ a k e m Az=>?_);refine nt (iR Bv) s e λs=>dD ((AF ?_));refine gc 4 [bA m 4 Bl z] k z λk=>sB XR m k z (by exact fC z fN) λBk _ _ a k m e Cb=>gl 1 [bA m 1 Az z] k z λk=>sB XK m k z (by exact fC z fN) λBd _ _ a k m e Bs=>?_;have Bc:=AO Bs ([(⟨Y,Z,Ag,O⟩:Spot)]:List Spot) z z z;refine sv k z (AN be k (cs:=#[(.slice (some ⟨Bk,0,none⟩) 1 1),(.slice (some ⟨Bd,0,none⟩) 1 1)]) (ps:=[(0,.tmp 51),(1,.tmp 53)]) z z (CU z z z (CU z (CJ (Enc.ow_rd Bc)) z z))) λa k=>oE h λ_ Br h=>cC k m call34 z (X5 Br (show rd _ _ [(.slice (some ⟨Bk,0,none⟩) 1 1),(.slice (some ⟨Bd,0,none⟩) 1 1)] ((⟨([(⟨E,J,L⟩:Carton)]:List Carton),([(⟨Y,Z,Ag,O⟩:Spot)]:List Spot)⟩:Plan):Plan) from ⟨_,_,_,_,z,z,(q5 (m.y Cb 1 z) (show rd _ _ [I E,I J,V] ((⟨E,J,L⟩:Carton):Carton) from ⟨_,_,z,z,(m.q Aq 5 z)⟩)),(m.q Bc 0 z)⟩)) λ_ e a k m=>lJ 3 h k z (λh k=>?_) λh k=>?_
     · refine uc 2 k z λk=>sv k z (AN bD k (cs:=#[I 0,I 0,.slice none 0 0]) (ps:=[]) z z AQ) λa k=>sv k z (AN ZW k (cs:=#[I 0,I 0,I 0,I 0]) (ps:=[]) z z AQ) λa k=>sT sizeOf66 m 3 T 0 k z z λ_ a k e m J=>sT sizeOf68 m 4 U 0 k z z λ_ a k e m E=>ul 5 k z λk=>?_;cases h;exact aI k z (RV.cA k z OJ (J.at (m.a 3 z) 0 3 z z z) z) (RV.cA k z dJ (E.at (m.a 4 z) 0 4 z z z) z) (RV.tmp k z) ⟨_,_,z,m.ext,⟨_,[],z,z,(A0 _),by simpa [EC] using (m.sl [] z).nd⟩,AD⟩
     refine uc 3 k z λk=>dI (([M])++([N])) m z λA m s=>?_;have E:=(A.sel [3,4,0,1,2,5,6] z A1).join2;refine dT k 0 z z s (λw s=>DV OJ (Bl.at (E.az 5 0 z z z s) 0 3 z z z) z k z z) λa k=>dT k 1 z z s (λw s=>DV dJ (Az.at (E.az 3 0 z z z s) 0 4 z z z) z k z z) λa k=>dG 2 z (sT sizeOf66 m 3 T 0 k z (AH z (AH z (AH (A5 (Enc.ow_rd Aq)) DR))) λ_ a k e m E=>?_);refine nt iA s e λs=>dG 3 z (sT sizeOf68 m 4 U 0 k z z λ_ a k e m J=>?_);refine nt iB s e λs=>dM [4] 1 z k z s λa k=>dD ?_;refine (AF ?_);refine wp_ret ?_;cases h;exact aI k z (RV.cA k z OJ (E.at (m.a 3 z) 0 3 z z z) z) (RV.cA k z dJ (J.at (m.a 4 z) 0 4 z z z) z) (RV.tmp k z) ⟨_,_,z,m.ext,⟨_,Q,z,z,(m.v Aq 5 z),by simpa [EC] using (m.sl [5] z).nd⟩,(m.fresh 5 z)⟩
   refine dI [] m z λA m s=>o2 h λM J N E h=>oE h λ_ L h=>dr [0,3,6,1,2,4,5] 7 [iF (Enc.ow_rd D) J,eF (A.q D 2 z) J 0,iF (Enc.ow_rd D) E,eF (A.q D 2 z) E 0] k z s λk=>?_;obtain ⟨E,A,J⟩:=sR D L FX;refine dT k 7 z z s (λw s=>J k z z z _) λa k=>dT k 8 z z s (λw s=>AN bD k (cs:=#[I M,I N,E]) (ps:=[(0,.tmp 30),(1,.tmp 33),(2,.tmp 35)]) z z (CU z z z (CU z z z (CU z (CJ (Enc.ow_rd A)) z z)))) λa k=>dG 9 z (BU (cs:=[I 0,I 0,.slice none 0 0]) m k zeroValue66 z z z z z λ_ _ a k m e J D=>?_);have E:=s.lo D;refine ns s e λs=>dG 10 z (sT sizeOf66 m 0 J 0 k z (AH z (AH z (AH (A5 (Enc.ow_rd A)) DR))) λ_ a k e m D=>?_);refine nt (iR E) s e λs=>dD ((AF ?_));exact ⟨_,_,_,_,_,_,k.p z,m.sl [1,2,3,0] z,A,D,h⟩
 refine uc 5 k z λk=>bT h k 22 z (λh k=>?_) λh k=>?_
 · refine ul 8 k z λk=>sv k z (AN bD k (cs:=#[I 0,I 0,.slice none 0 0]) (ps:=[]) z z AQ) λa k=>sv k z (AN ZW k (cs:=#[I 0,I 0,I 0,I 0]) (ps:=[]) z z AQ) λa k=>sT sizeOf66 m 3 T 0 k z z λ_ a k e m D=>sT sizeOf68 m 2 U 0 k z z λ_ a k e m A=>ul 5 k z λk=>?_;cases h;exact aI k z (RV.cA k z OJ (D.at (m.a 3 z) 0 3 z z z) z) (RV.cA k z dJ (A.at (m.a 2 z) 0 4 z z z) z) (RV.tmp k z) ⟨_,_,z,m.ext,⟨_,[],z,z,(A0 _),by simpa [EC] using (m.sl [] z).nd⟩,AD⟩
 refine lJ 5 h k z (λh k=>?_) λh k=>?_
 · refine uc 2 k z λk=>sv k z (AN bD k (cs:=#[I 0,I 0,.slice none 0 0]) (ps:=[]) z z AQ) λa k=>sv k z (AN ZW k (cs:=#[I 0,I 0,I 0,I 0]) (ps:=[]) z z AQ) λa k=>sT sizeOf66 m 3 T 0 k z z λ_ a k e m D=>sT sizeOf68 m 2 U 0 k z z λ_ a k e m A=>ul 5 k z λk=>?_;cases h;exact aI k z (RV.cA k z OJ (D.at (m.a 3 z) 0 3 z z z) z) (RV.cA k z dJ (A.at (m.a 2 z) 0 4 z z z) z) (RV.tmp k z) ⟨_,_,z,m.ext,⟨_,[],z,z,(A0 _),by simpa [EC] using (m.sl [] z).nd⟩,AD⟩
 exact uc 2 k z λk=>⟨k.p z,m.sl [3,2,0] z,h⟩
theorem YQ {fu A N r} (h:MB fu N=some r) (hT:Te Tryz.prog A):Calls Tryz.prog 12 #[.string (N)] A λe w=>∃ (N:List Value) (Q:List Nat),e=.returned (.tuple #[.agg N.toArray,.bool (r.2)])∧Ext [] A w∧ow w Q N r.1∧(∀ b∈Q,A.heap.size≤b):=by
 refine eg (vs:=[_]) func12 z ntmps12 z λk m=>uc 2 k z λk=>AP m k zeroValue43 z z z z z λN w4 a k m e L=>oE h λQ T h=>ul 6 k z λk=>sL k m call30 z (Xj T) λw9 T Ar O k m=>gl 11 [lF (Enc.ow_rd O)] k z λk=>cg (λa w=>K 59 [(2,pt N),(4,T),(5,I (AK ((Q.length:Int) - 1)))] a∧St [] A w [([N],w4),(Ar,w9)]∧Tk fu Q=some r) ?_ ?_
 · rintro a _ ⟨k,m,h⟩;refine uc 2 k z λk=>sv k z (AN be k (cs:=#[.slice none 0 0,.slice none 0 0]) (ps:=[]) z z AQ) λa k=>AP m k zeroValue43 z z z z z λV _ a k m e Q=>sT sizeOf43 m 0 Q 0 k z z λ_ a k e m Cb=>oE h λBe Q h=>ul 7 k z λk=>ax (Enc.ow_rd O) Q k uq z z z z z z λCq a k Q=>gl 5 [lF Q] k z λk=>lG (λn a w=>∃ T Ag D Ap Ay E M Y Aq U,K 59 [(2,pt N),(6,pt V),(30,Cq),(31,I (Be.length:Int)),(32,I U)] a∧St [] A w [([N],w4),(D,Ap),(M,Y),([V],Aq),(Ar,w9)]∧ow Ap D [Ag] T∧ow Y M [E] Ay∧bx Aq V [Ag,E] 43∧IJ fu Be n T Ay U=some r) ?_ fu ?_
   · rintro _ a _ ⟨T,Ag,D,Ap,Ay,E,M,Y,Aq,U,k,m,Am,Z,Az,h⟩;refine uJ 6 h k z (λh k=>?_) λh k=>?_
     · refine o2 h λ_ N J T h=>gc 14 [iF Q N,eF (Enc.rd_agr Q (m.a 4 z)) N 0] k z λk=>sC k call33 z (iW T (m.te hT)) λ_ _ hR=>?_;obtain ⟨_,Au,rfl,e,At,N⟩:=hR;refine ⟨_,z,λa k=>?_⟩;have m:=m.nw e N At;obtain ⟨As,_,rfl,rfl,N,_⟩:=At;refine pN 4 k z λa k=>AP m k zeroValue66 z z z z z λ_ _ a k m e Q=>AP m k zeroValue68 z z z z z λ_ _ a k m e T=>sT sizeOf66 m 1 Q 0 k z (AH z (AH z (AH (A5 (Enc.ow_rd N)) DR))) λ_ a k e m V=>sT sizeOf68 m 0 T 0 k z z λ_ a k e m U=>lJ 10 h k z (λh k=>?_) λh k=>?_
       · refine uc 2 k z λk=>sv k z (AN be k (cs:=#[.slice none 0 0,.slice none 0 0]) (ps:=[]) z z AQ) λa k=>sT sizeOf43 m 3 L 0 k z z λ_ a k e m Q=>ul 10 k z λk=>?_;cases h;exact B4 k z (RV.cA k z YH (Q.at (m.a 3 z) 0 2 z z z) z) (RV.tmp k z) ⟨_,_,z,m.ext,⟨_,[],_,[],z,z,(A0 _),(A0 _),by simpa [EC] using (m.sl [] z).nd⟩,(A3 AD AD)⟩
       refine gc 7 [bF m 6 Az z,bA m 1 V z] k z λk=>sB XR m k z (by exact fC z fN) λ_ _ _ a k m e T=>oE h λ_ Q h=>?_;have Y:ow _ (Au) [I J.1.f8,I J.1.fF,As] (J.1:Carton):=⟨_,_,z,z,(m.v N 3 z),by simpa [EC] using (m.sl [3] z).nd⟩
       have V:=News.box T (m.a 0 z) AD (m:=1);have N:=m.a 5 z;have m:=m.sl [5,3,0,1,2,4,6,7,8] z;have m:=m.join2;refine D8 (F:=D) (G:=(Au)) Q XR z m Am N V Y (Agr.refl _ _) k z z z z z z λT _ _ a k e m N=>sv k z (MV P6 k z z) λa k=>CM (cs':=[T,E]) sizeOf40 m 6 Az 0 k (CJ (Enc.ow_rd N)) (A5 (Enc.ow_rd N)) z z z z z z z z z λ_ a k e m Q=>gl 6 [bF m 6 Q z,bA m 2 U z] k z λk=>sB XK m k z (by exact fC z fN) λ_ _ _ a k m e U=>?_;have E:=AO U ([J.2.1]:List Spot) z z z;exact oE h λ_ J h=>BX J XK z m 6 Z (News.rd (m.q E 0 z)) z z k z z z z z z z λJ _ _ a k e m E=>sv k z (MV SJ k z z) λa k=>CM (cs':=[T,J]) sizeOf41 m 7 Q 1 k (CJ (Enc.ow_rd E)) (A5 (Enc.ow_rd E)) z z z z z z z z z λ_ a k e m J=>ul 8 k z λk=>⟨_,_,_,_,_,_,_,_,_,_,k.p z,m.sl [5,1,6,7,8] z,N,E,J,h⟩
     refine gc 8 [bA m 3 Az z] k z λk=>sT sizeOf43 m 0 L 0 k z (AH (A5 (Enc.ow_rd Am)) (AH (A5 (Enc.ow_rd Z)) DR)) λ_ a k e m E=>ul 4 k z λk=>?_;cases h;exact B4 k z (RV.cA k z YH (E.at (m.a 0 z) 0 2 z z z) z) (RV.tmp k z) ⟨_,_,z,m.ext,⟨_,D,_,M,z,z,(m.v Am 1 z),(m.v Z 2 z),by simpa [EC] using (m.sl [1,2] z).nd⟩,(A3 (m.fresh 1 z) (m.fresh 2 z))⟩
   exact ⟨_,_,_,_,_,_,_,_,_,_,k.p z,((m.addNil (u:=A)).addNil (u:=A)).sel [3,0,1,2,4] z A1,(A0 _),(A0 _),Cb,h⟩
 refine oE h λ_ A h=>gc 8 [iF (Enc.ow_rd O) A,eF (m.q O 0 z) A 0] k z λk=>bT h k 22 z (λh k=>?_) λh k=>?_
 · refine ul 8 k z λk=>sv k z (AN be k (cs:=#[.slice none 0 0,.slice none 0 0]) (ps:=[]) z z AQ) λa k=>sT sizeOf43 m 1 L 0 k z z λ_ a k e m A=>ul 5 k z λk=>?_;cases h;exact B4 k z (RV.cA k z YH (A.at (m.a 1 z) 0 2 z z z) z) (RV.tmp k z) ⟨_,_,z,m.ext,⟨_,[],_,[],z,z,(A0 _),(A0 _),by simpa [EC] using (m.sl [] z).nd⟩,(A3 AD AD)⟩
 refine lJ 5 h k z (λh k=>?_) λh k=>?_
 · refine uc 2 k z λk=>sv k z (AN be k (cs:=#[.slice none 0 0,.slice none 0 0]) (ps:=[]) z z AQ) λa k=>sT sizeOf43 m 1 L 0 k z z λ_ a k e m A=>ul 5 k z λk=>?_;cases h;exact B4 k z (RV.cA k z YH (A.at (m.a 1 z) 0 2 z z z) z) (RV.tmp k z) ⟨_,_,z,m.ext,⟨_,[],_,[],z,z,(A0 _),(A0 _),by simpa [EC] using (m.sl [] z).nd⟩,(A3 AD AD)⟩
 exact uc 2 k z λk=>⟨k.p z,m.sl [1,0] z,h⟩
theorem L6 {fu D E M J e L r} (h:CV fu E M=some r) (A:rd D e [J] E) (U:Wn Tryz.prog D L M):cS 142 [J,L] D (I r):=by
 refine eg func142 z ntmps142 z λk m=>?_;obtain ⟨Y,N,rfl,O,Z⟩:=U;refine gc 14 [lF A] k z λk=>lG (λn a w=>∃ L,K 19 [(0,J),(1,(.func (.func Y) #[] N.toArray)),(7,I (E.length:Int)),(8,I L)] a∧St [] D w []∧BI fu E M n L=some r) ?_ fu ?_
 · rintro _ a _ ⟨L,k,m,h⟩;refine uJ 6 h k z (λh k=>?_) λh k=>?_
   · refine oE h λ_ D h=>gc 16 [iF A D] k z λk=>?_;obtain ⟨_,_,_,V,T,Ar⟩:=AR A (AG D).2.2;obtain ⟨_,_,rfl,rfl,D⟩:=V;refine sv k z (DV OJ (T.agr (m.a00 (Enc.rd_lt A)) Ar) z k z z) λa k=>oE h λ_ A h=>TT k O z z z z z z (Z _ _ _ _ m.ext ⟨_,_,z,(I1 (m.r D))⟩ A) λ_ _ Q=>?_;obtain ⟨rfl,e⟩:=Q;refine ⟨_,z,λa k=>?_⟩;have m:=m.step e;refine lJ 2 h k z (λh k=>?_) λh k=>?_
     · refine uc 12 k z λk=>fS h k m z z
     exact uc 8 k z λk=>⟨_,k.p z,m.f z,h⟩
   refine uc 11 k z λk=>fS h k m z z
 exact ⟨_,k.p z,m.f z,h⟩
theorem K9 {fu A J L E O D r} (h:CH fu J L=some r) (M:rd A O [E] J) (N:Wn Tryz.prog A D L):cS 71 [E,D] A (.bool (r)):=by
 refine eg func71 z ntmps71 z λk m=>?_;obtain ⟨_,_,rfl,A,D⟩:=N;refine oE h λ_ E h=>uc 9 k z λk=>cC k m call142 z (L6 E (m.r M) ⟨_,_,z,A,λw E A r e=>D w E A r (m.ext.trans e AD)⟩) λ_ e a k m=>ul 5 k z λk=>fS h k m z z
theorem hZ (fu) {A} (E) {D L} (J:rd A L D E) {r} (h:XM fu E=some r):cS 72 [.agg D.toArray] A (.bool (r)):=by
 refine eg func72 z ntmps72 z λk m=>?_;obtain ⟨_,_,rfl,rfl,D⟩:=J;refine uc 2 k z λk=>AW m k z z z z z z λ_ _ a k m e A=>gl 13 [bF m 0 A z,lF D] k z λk=>fS h k m z z
theorem dn {fu L A E M r} (h:Ss fu A=some r) (J:rd L M E A):cL 73 [.agg E.toArray] L r:=by
 refine eg func73 z ntmps73 z λk m=>?_;obtain ⟨Z,_,_,_,rfl,rfl,D,_⟩:=J;refine uc 2 k z λk=>AW m k z z z z z z λ_ _ a k m e E=>ul 5 k z λk=>sB AV m k z (by exact fN) λ_ _ _ a k m e J=>?_;have T:=AO J ([]:List Int) z z z;refine gl 13 [bF m 1 E z,lF D] k z λk=>lG (λn a w=>∃ N O E J M,K 20 [(3,O),(8,Z),(9,I (A.fV.length:Int)),(10,I M)] a∧St [] L w [(E,J)]∧ow J E [O] N∧ID fu A n N M=some r) ?_ fu ?_
 · rintro _ a _ ⟨N,O,E,J,M,k,m,Q,h⟩;refine uJ 6 h k z (λh k=>?_) λh k=>?_
   · refine oE h λ_ A h=>gc 7 [iF D A] k z λk=>?_;obtain ⟨_,_,_,V,U,Y⟩:=AR D (AG A).2.2;obtain ⟨_,_,rfl,rfl,A⟩:=V;exact sv k z (DV OJ (U.agr (m.a00 (Enc.rd_lt D)) Y) z k z z) λa k=>AP m k zeroValue66 z z z z z λ_ _ a k m e D=>sT sizeOf66 m 0 D 0 k z (AH z (AH z (AH (A5 A) DR))) λ_ a k e m E=>oE h λ_ D h=>gl 6 [bF m 0 E z] k z λk=>BX D AV z m 1 Q (News.rd (m.r A)) z z k z z z z z z z λ_ _ _ a k e m A=>ul 9 k z λk=>⟨_,_,_,_,_,k.p z,m.sl [1] z,A,h⟩
   exact uc 12 k z λk=>fL h k m Q 0 z z
 exact ⟨_,_,_,_,_,k.p z,m.f z,T,h⟩
theorem Yv {fu D A N M J L O r} (h:JX fu A N=some r) (E:rd D J [M] A) (J:rd D O [L] N):cS 75 [M,L] D (.bool (r)):=by
 refine eg func75 z ntmps75 z λk m=>gJ 15 [lF E,lF J] h k z (λh k=>?_) λh k=>?_
 · refine uc 7 k z λk=>fS h k m z z
 refine gc 11 [lF E] k z λk=>lG (λn a w=>∃ O,K 26 [(0,M),(1,L),(12,I (A.length:Int)),(13,I O)] a∧St [] D w []∧D4 fu A N n O=some r) ?_ fu ?_
 · rintro _ a _ ⟨O,k,m,h⟩;refine uJ 6 h k z (λh k=>?_) λh k=>?_
   · refine uc 11 k z λk=>dI [] m z λA m s=>o2 h λ_ D _ L h=>dr [0,1,4,5,2,3,6,7,8] 9 [iF E D,eF (A.r E) D 0,iF J L,eF (A.r J) L 0] k z s λk=>dD ((AF ?_));refine cJ h k z (λh=>?_) λh=>?_
     · refine uc 11 k z λk=>fS h k m z z
     exact uc 8 k z λk=>⟨_,k.p z,m.f z,h⟩
   refine uc 11 k z λk=>fS h k m z z
 exact ⟨_,k.p z,m.f z,h⟩
theorem Za (fu) {D} (U M N) {E Q T} (L:bx D T [I M.f8,I M.fF,E] 66) (V:rd D Q [E] M.fK) {V Ah Q} (E:bx D Q [V] 84) (J:rd D Ah [V] N) {r} (h:OZ fu U M N=some r):cS 148 [.agg (Flat.e (U)).toArray,pt T,pt Q] D (.bool (r)):=by
 refine eg func148 z ntmps148 z λk m=>uc 2 k z λk=>AW m k z z z z z z λ_ _ a k m e Am=>ul 4 k z λk=>dI [] m z λA m s=>dF k 0 fj z s λa k=>dT k 1 z z s (λw s=>A9 GP (r:=[]) (L.at ((A.step s).a00 L.lt1) 1 1 z z z) k z z) λa k=>dT k 2 z z s (λw s=>A9 yJ (r:=[]) (E.at ((A.step s).a00 E.lt1) 0 1 z z z) k z z) λa k=>dT k 3 z z s (λw s=>gE (α:=List Int) J k underlying84 z z) λa k=>dM [4,5] 2 z k z s λa k=>bT h k 10 z (λh k=>?_) λh k=>?_
 · refine dM [6,7,8,9,10,11,12,13,14,15,16] 11 z k z s λa k=>dD ((AF ?_));refine wp_ret (fS h k m z z)
 refine dT k 6 z z s (λw s=>A9 yJ (r:=[]) (E.at ((A.step s).a00 E.lt1) 0 1 z z z) k z z) λa k=>dF k 7 fj z s λa k=>dT k 8 z z s (λw s=>A9 GP (r:=[]) (L.at ((A.step s).a00 L.lt1) 1 1 z z z) k z z) λa k=>oE h λ_ D h=>dr [9] 1 [iF J D] k z s λk=>?_;obtain ⟨_,Z,_,O,Y,Aj⟩:=AR J (AG D).2.2;obtain ⟨_,rfl⟩:∃ v,Z=[v]:=by obtain ⟨_,_,D,_⟩:=O; exact ⟨_,D⟩
 refine dT k 10 z z s (λw s=>A9 Yn (Y.agr ((A.step s).a00 (Enc.rd_lt J)) Aj) k z z) λa k=>dr [11,12] 2 [bF A 0 Am z] k z s λk=>dG 13 z (oE h λ_ A h=>cC k m call149 z (P1 A (m.r O)) λ_ e a k m=>?_);refine ns s e λs=>dM [14,15,16] 3 z k z s λa k=>dD ((AF ?_));refine wp_ret (fS h k m z z)
theorem aB {fu J M D O F3 Bl F7 r} (h:Me fu M D=some r) (Co:rd J F3 O M) (Bm:rd J F7 Bl D):cS 78 [.agg O.toArray,.agg Bl.toArray] J (I r):=by
 refine eg func78 z ntmps78 z λk m=>?_;obtain ⟨_,_,_,_,_,_,rfl,rfl,U,Q,N⟩:=Co;obtain ⟨V,_,_,_,rfl,rfl,A,_⟩:=Bm;refine uc 2 k z λk=>AW m k z z z z z z λE Y a k m e T=>AW m k z z z z z z λL Au a k m e Ay=>gl 13 [bF m 0 Ay z,lF A] k z λk=>lG (λn a w=>∃ O,K 77 [(2,pt E),(3,pt L),(17,V),(18,I (D.fV.length:Int)),(19,I O)] a∧St [] J w [([E],Y),([L],Au)]∧EJ fu M D n O=some r) ?_ fu ?_
 · rintro Cs a _ ⟨O,k,m,h⟩;refine uJ 6 h k z (λh k=>?_) λh k=>?_
   · refine uc 2 k z λk=>cg (λa w=>K 77 [(2,pt E),(3,pt L),(17,V),(18,I (D.fV.length:Int)),(19,I O)] a∧St [] J w [([E],Y),([L],Au)]∧M4 fu (EJ fu M D Cs) O=some r) ?_ ?_
     · rintro a _ ⟨k,m,h⟩;exact uc 5 k z λk=>⟨_,k.p z,m.f z,h⟩
     refine oE h λ_ O h=>gc 4 [iF A O] k z λk=>?_;obtain ⟨_,_,_,Bz,Ck,Bv⟩:=AR A (AG O).2.2;obtain ⟨_,_,rfl,rfl,O⟩:=Bz;refine sv k z (DV OJ (Ck.agr (m.a00 (Enc.rd_lt A)) Bv) z k z z) λa k=>AP m k zeroValue66 z z z z z λ_ _ a k m e Cn=>sT sizeOf66 m 0 Cn 0 k z (AH z (AH z (AH (A5 O) DR))) λ_ a k e m Bc=>oE h λ_ Bu h=>gl 7 [bA m 1 T z,bF m 0 Bc z] k z λk=>cC k m call107 z (Se Bu (AE (m.r U) (m.r Q) (m.r N))) λ_ e a k m=>pN 3 k z λa k=>AP m k zeroValue102 z z z z z λ_ _ a k m e Bq=>sT sizeOf102 m 0 Bq 0 k z z λ_ a k e m Ci=>ul 8 k z λk=>bT h k 32 z (λh k=>?_) λh k=>?_
     · refine ul 21 k z λk=>fS h k m z z
     refine oE h λ_ Bx h=>gl 4 [bA m 2 T z,bF m 1 Bc z,bA m 0 Ci z] k z λk=>cC k m call146 z (bo Bx (AE (m.r U) (m.r Q) (m.r N)) (m.r O)) λ_ e a k m=>lJ 4 h k z (λh k=>?_) λh k=>?_
     · refine uc 11 k z λk=>fS h k m z z
     exact uc 3 k z λk=>⟨k.p z,m.sl [2,3] z,h⟩
   refine oE h λCe O h=>gc 8 [bA m 0 T z] k z λk=>sL k m call50 z (Sh O (AE (m.r U) (m.r Q) (m.r N))) λCx O Bh Ap k m=>AP m k zeroValue84 z z z z z λAx _ a k m e By=>CM (cs':=[O]) sizeOf84 m 0 By 0 k (CJ (Enc.ow_rd Ap)) (A5 (Enc.ow_rd Ap)) z z z z z z z z z λCu a k e m Cr=>gl 12 [bF m 3 Ay z,lF A] k z λk=>lG (λn a w=>∃ O,K 77 [(2,pt E),(3,pt L),(9,pt Ax),(44,V),(45,I (D.fV.length:Int)),(46,I O)] a∧St [] J w [([E],Y),([L],Au),([Ax],Cu),(Bh,Cx)]∧FW fu M D Ce n O=some r) ?_ fu ?_
   · rintro _ a _ ⟨O,k,m,h⟩;refine uJ 6 h k z (λh k=>?_) λh k=>?_
     · refine oE h λ_ L h=>gc 7 [iF A L] k z λk=>?_;obtain ⟨_,_,_,Cz,Cb,Cd⟩:=AR A (AG L).2.2;obtain ⟨_,_,rfl,rfl,Z⟩:=Cz;refine sv k z (DV OJ (Cb.agr (m.a00 (Enc.rd_lt A)) Cd) z k z z) λa k=>AP m k zeroValue66 z z z z z λBo _ a k m e L=>sT sizeOf66 m 0 L 0 k z (AH z (AH z (AH (A5 Z) DR))) λ_ a k e m Ba=>oE h λ_ L h=>gl 7 [bA m 1 T z,bF m 0 Ba z] k z λk=>sL k m call147 z (Ul L (AE (m.r U) (m.r Q) (m.r N)) (m.r Z)) λ_ _ _ L k m=>pN 1 k z λa k=>oE h λ_ O h=>cC k m call66 z (C4 O (m.q L 0 z) ⟨148,[pt Bo,pt Ax],z,call148,λw _ _ r e Cg hx=>by subst Cg; have m:=m.step e; exact Za fu _ _ _ (Ba.agr (m.a 1 rfl) AD) (m.r Z) (Cr.agr (m.a 4 rfl) AD) (Enc.rd_agr (Enc.ow_rd Ap) (m.a 5 rfl)) hx⟩) λ_ e a k m=>ul 2 k z λk=>cI h k rfl (λL h=>?_) λL h=>?_
       · refine uc 11 k z λk=>fS h k m z z
       exact uc 8 k z λk=>⟨_,k.p z,m.sl [2,3,4,5] z,h⟩
     refine gc 15 [bF m 1 Ay z,lF A] k z λk=>lG (λn a w=>∃ L,K 77 [(2,pt E),(58,V),(59,I (D.fV.length:Int)),(60,I L)] a∧St [] J w [([E],Y)]∧FV fu M D n L=some r) ?_ fu ?_
     · rintro _ a _ ⟨L,k,m,h⟩;refine uJ 6 h k z (λh k=>?_) λh k=>?_
       · refine oE h λ_ D h=>gc 7 [iF A D] k z λk=>?_;obtain ⟨_,_,_,Bp,Bw,De⟩:=AR A (AG D).2.2;obtain ⟨_,_,rfl,rfl,D⟩:=Bp;refine sv k z (DV OJ (Bw.agr (m.a00 (Enc.rd_lt A)) De) z k z z) λa k=>AP m k zeroValue66 z z z z z λ_ _ a k m e A=>sT sizeOf66 m 0 A 0 k z (AH z (AH z (AH (A5 D) DR))) λEz a k e m A=>oE h λ_ E h=>gl 7 [bA m 1 T z,bF m 0 A z] k z λk=>cC k m call104 z (YL E (AE (m.r U) (m.r Q) (m.r N)) (m.r D)) λ_ e a k m=>pN 3 k z λa k=>AP m k zeroValue102 z z z z z λ_ _ a k m e D=>sT sizeOf102 m 0 D 0 k z z λ_ a k e m D=>hJ 12 [bF m 0 D z,bF m 1 A z] h k z (λh k=>?_) λh k=>?_
         · refine uc 11 k z λk=>fS h k m z z
         exact uc 8 k z λk=>⟨_,k.p z,m.sl [2] z,h⟩
       refine uc 11 k z λk=>fS h k m z z
     exact ⟨_,k.p z,m.f z,h⟩
   exact ⟨_,k.p z,m.sl [2,3,0,1] z,h⟩
 exact ⟨_,k.p z,m.sl [1,0] z,h⟩
theorem iz {fu O L M E r} (h:V4 fu L M E=some r):cS 150 [.agg (Flat.e (L)).toArray,.agg (Flat.e (M)).toArray,.agg (Flat.e (E)).toArray] O (.bool (r)):=by
 refine eg func150 z ntmps150 z λk m=>uc 2 k z λk=>AW m k z z z z z z λT Y a k m e J=>AW m k z z z z z z λQ V a k m e D=>AW m k z z z z z z λN U a k m e A=>ul 3 k z λk=>cg (λa w=>K 69 [(3,pt T),(4,pt Q),(5,pt N)] a∧St [] O w [([T],Y),([Q],V),([N],U)]∧VK fu L M E=some r) ?_ ?_
 · rintro a _ ⟨k,m,h⟩;refine gc 11 [bF m 2 A z,bF m 1 D z,bF m 0 J z] k z λk=>bT h k 49 z (λh k=>?_) λh k=>?_
   · refine gl 10 [bF m 2 A z,bF m 1 D z,bF m 0 J z] k z λk=>bT h k 59 z (λh k=>?_) λh k=>?_
     · refine gl 13 [bF m 2 A z,bF m 1 D z,bF m 0 J z] k z λk=>fS h k m z z
     refine ul 13 k z λk=>fS h k m z z
   refine ul 23 k z λk=>fS h k m z z
 refine oE h λ_ E h=>gc 4 [bF m 0 A z] k z λk=>cC k m call93 z (DW E) λ_ e a k m=>pN 2 k z λa k=>bT h k 11 z (λh k=>?_) λh k=>?_
 · refine ul 39 k z λk=>fS h k m z z
 refine oE h λ_ E h=>gl 2 [bF m 0 A z] k z λk=>cC k m call93 z (DW E) λ_ e a k m=>pN 3 k z λa k=>bT h k 17 z (λh k=>?_) λh k=>?_
 · refine ul 33 k z λk=>fS h k m z z
 refine oE h λ_ E h=>gl 2 [bF m 0 A z] k z λk=>cC k m call93 z (DW E) λ_ e a k m=>pN 3 k z λa k=>bT h k 23 z (λh k=>?_) λh k=>?_
 · refine ul 27 k z λk=>fS h k m z z
 refine oE h λ_ A h=>gl 2 [bF m 1 D z] k z λk=>cC k m call199 z (Fo A) λ_ e a k m=>pN 3 k z λa k=>bT h k 29 z (λh k=>?_) λh k=>?_
 · refine ul 21 k z λk=>fS h k m z z
 refine oE h λ_ A h=>gl 2 [bF m 1 D z] k z λk=>cC k m call199 z (Fo A) λ_ e a k m=>pN 3 k z λa k=>bT h k 35 z (λh k=>?_) λh k=>?_
 · refine ul 15 k z λk=>fS h k m z z
 refine oE h λ_ A h=>gl 2 [bF m 1 D z] k z λk=>cC k m call199 z (Fo A) λ_ e a k m=>lJ 4 h k z (λh k=>?_) λh k=>?_
 · refine uc 7 k z λk=>fS h k m z z
 exact uc 2 k z λk=>⟨k.p z,m.sl [2,1,0] z,h⟩
theorem Z3 {fu E D A r} (h:RM fu D A=some r):cS 218 [.agg (Flat.e (D)).toArray,.agg (Flat.e (A)).toArray] E (.bool (r)):=by
 refine eg func218 z ntmps218 z λk m=>uc 2 k z λk=>AW m k z z z z z z λ_ _ a k m e D=>AW m k z z z z z z λ_ _ a k m e A=>oE h λ_ E h=>gl 7 [bF m 1 D z] k z λk=>cC k m call93 z (DW E) λ_ e a k m=>pN 1 k z λa k=>bT h k 8 z (λh k=>?_) λh k=>?_
 · refine oE h λ_ E h=>gl 2 [bF m 1 D z] k z λk=>cC k m call93 z (DW E) λ_ e a k m=>pN 2 k z λa k=>bT h k 13 z (λh k=>?_) λh k=>?_
   · refine oE h λ_ E h=>gl 2 [bF m 1 D z] k z λk=>cC k m call93 z (DW E) λ_ e a k m=>pN 2 k z λa k=>bT h k 18 z (λh k=>?_) λh k=>?_
     · refine oE h λ_ D h=>gl 2 [bF m 0 A z] k z λk=>cC k m call93 z (DW D) λ_ e a k m=>pN 2 k z λa k=>bT h k 23 z (λh k=>?_) λh k=>?_
       · refine oE h λ_ D h=>gl 2 [bF m 0 A z] k z λk=>cC k m call93 z (DW D) λ_ e a k m=>pN 2 k z λa k=>bT h k 28 z (λh k=>?_) λh k=>?_
         · refine oE h λ_ D h=>gl 2 [bF m 0 A z] k z λk=>cC k m call93 z (DW D) λ_ e a k m=>ul 5 k z λk=>fS h k m z z
         refine ul 8 k z λk=>fS h k m z z
       refine ul 13 k z λk=>fS h k m z z
     refine ul 18 k z λk=>fS h k m z z
   refine ul 23 k z λk=>fS h k m z z
 refine ul 28 k z λk=>fS h k m z z
end Go.Proofs.YtdgpkmgnjdpieaaGreatDoor
