/- FnRenamed: the walks.. -/
import Derived.Test.YtndfoffokpdjeaaGreatDoorRenamedBT
set_option maxRecDepth 20000
set_option linter.unusedSimpArgs false
set_option linter.unusedVariables false
set_option linter.unnecessarySimpa false
namespace Go.Proofs.YtndfoffokpdjeaaGreatDoor
open Go Go.RowKit
open Enc (rd ow)
open Arg (argv)
open Ret (retv)
open Go.Proofs.Tryz
theorem Qu8 (fu:Nat) {w0:World} (t1:Typ) (x2:Int) {b3:Nat} (Aa:bx w0 b3 [I x2] 3) {r:Bool}
    (h:Qnl fu t1 x2=some r) :
    Calls Tryz.prog 190 #[.agg (Flat.e (t1)).toArray,pt b3] w0 λe w=>e=.returned (.bool (r))∧Ext [] w0 w:=by
 refine eg (vs:=[_,_]) func190 z ntmps190 z λk m=>?_;unfold Qnl at h;refine uc 2 k z λk=>Qbo (cs:=[I t1.f0,I t1.fW,I t1.fH,I t1.fD,I t1.fF,I t1.fQ,I t1.fE]) m k z z z z z z λb5 w7 a k m e Ab=>gl 13 [bF m 0 Ab z,pF (r:=[]) (Aa.at (m.a00 Aa.lt1) 0 1 z z z)] k z λk=>fS h k m z z
theorem Qgs (fu:Nat) {w0:World} (Ab:List Typ) (f5:Typ→Option Bool) {v2:Value} {F3:List Nat} (Ac:rd w0 F3 [v2] Ab) {v6:Value} (Al:Qt7 Tryz.prog w0 v6 f5) {r:Int}
    (h:Qa9 fu Ab f5=some r) :
    Calls Tryz.prog 156 #[v2,v6] w0 λe w=>e=.returned (I r)∧Ext [] w0 w:=by
 refine eg (vs:=[_,_]) func156 z ntmps156 z λk m=>?_;obtain ⟨Aj,Ag,rfl,Af,Ai⟩:=Al;unfold Qa9 at h;refine gc 14 [lF (α:=Typ) Ac] k z λk=>lG (λn a w=>∃ Aa,K 19 [(0,v2),(1,(.func (.func Aj) #[] Ag.toArray)),(7,I (Ab.length:Int)),(8,I Aa)] a∧St [] w0 w []∧Qav fu Ab f5 n Aa=some r) ?_ fu ?_
 · rintro Am a As ⟨Aa,k,m,h⟩;rw [Qav.eq_2] at h;unfold Qb2 at h;refine uc 6 k z λk=>cJ h k z (λh=>?_) λh=>?_
   · refine o2 h λAp Ad Aq Ak h=>gc 17 [iF Ac Ad,eA (m.r Ac) Ad] k z λk=>Qob k Af z z z z z z (Ai _ _ _ _ m.ext z Ak) λAo Ar hR=>?_;obtain ⟨rfl,e⟩:=hR;refine ⟨_,z,λa k=>?_⟩;have m:=m.step e;refine ul 2 k z λk=>cJ h k z (λh=>?_) λh=>?_
     · refine uc 12 k z λk=>fS h k m z z
     refine uc 8 k z λk=>?_;exact ⟨_,k.p z,m.sl [] z,h⟩
   refine uc 11 k z λk=>fS h k m z z
 exact ⟨_,k.p z,m.sl [] z,h⟩
theorem Qrt (fu:Nat) {w0:World} (r1:Request) (Ac:Int) {Ad:List Value} {F3:List Nat} (Aq:rd w0 F3 Ad r1) {r:Typ×Bool}
    (h:Qhj fu r1 Ac=some r) :
    Calls Tryz.prog 113 #[.agg Ad.toArray,I Ac] w0 λe w=>e=.returned (.tuple #[.agg (Flat.e r.1).toArray,.bool (r.2)])∧Ext [] w0 w:=by
 refine eg (vs:=[_,_]) func113 z ntmps113 z λk m=>?_;obtain ⟨v6,F7,v8,F9,Al,As,rfl,rfl,Ar,Ab,Av⟩:=Aq;unfold Qhj at h;refine uc 2 k z λk=>Qbo (cs:=(cR r1 v6 v8 Al)) m k z z z z z z λAy Bc a k m e Ae=>Qbo (cs:=[I Ac]) m k z z z z z z λAm Ba a k m e Aj=>Qai (cs:=[I 0,I 0,I 0,I 0,I 0,I 0,I 0]) m k zeroValue53 z z z z z λAu Aw a k m e Ag=>oE h λAx Ak h=>gl 8 [bF m 2 Ae z] k z λk=>cC k m call156 z (Qgs fu _ _ (m.r Ab) ⟨190,[pt Am],z,call190,λw Bd Be r e Ai hx=>by subst Ai; have m:=m.step e; exact Qu8 fu _ _ (Aj.agr (m.a 1 rfl) (by simp)) hx⟩ Ak) λAz e a k m=>pN 1 k rfl λa k=>ul 5 k z λk=>pN 2 k rfl λa k=>ul 2 k z λk=>cI h k rfl (λAo h=>?_) λAo h=>?_
 · refine uc 2 k z λk=>sv k z (Qao Q3h k (cs:=#[I 0,I 0,I 0,I 0,I 0,I 0,I 0]) (ps:=[]) z z (by kernel_rfl)) λa k=>sT (cs':=[I 0,I 0,I 0,I 0,I 0,I 0,I 0]) sizeOf53 m 0 Ag 0 k z z λBb a k e m Ap=>ul 5 k z λk=>?_;cases h;exact Qn3 k z (RV.cA k z Q5w (Ap.at (m.a 0 z) 0 7 z z z) z) (RV.tmp k z) ⟨z,m.ext⟩
 refine oE h λAa Af h=>gc 9 [bF m 2 Ae z,iF Ab Af,eA (m.r Ab) Af] k z λk=>sT (cs':=[I Aa.f0,I Aa.fW,I Aa.fH,I Aa.fD,I Aa.fF,I Aa.fQ,I Aa.fE]) sizeOf53 m 0 Ag 0 k z z λAt a k e m Ah=>ul 4 k z λk=>?_;cases h;exact Qn3 k z (RV.cA k z Q5w (Ah.at (m.a 0 z) 0 7 z z z) z) (RV.tmp k z) ⟨z,m.ext⟩
theorem Qrs (fu:Nat) {w0:World} (r1:Request) {Ad:List Value} {F3:List Nat} (Ai:rd w0 F3 Ad r1) {r:Typ×Bool}
    (h:Qhd fu r1=some r) :
    Calls Tryz.prog 75 #[.agg Ad.toArray] w0 λe w=>e=.returned (.tuple #[.agg (Flat.e r.1).toArray,.bool (r.2)])∧Ext [] w0 w:=by
 refine eg (vs:=[_]) func75 z ntmps75 z λk m=>?_;obtain ⟨v5,F6,v7,F8,v9,Am,rfl,rfl,Ae,Ab,Ac⟩:=Ai;unfold Qhd at h;refine uc 2 k z λk=>Qbo (cs:=(cR r1 v5 v7 v9)) m k z z z z z z λAr Ap a k m e Af=>Qai (cs:=[I 0,I 0,I 0,I 0,I 0,I 0,I 0]) m k zeroValue53 z z z z z λAq Ao a k m e Aj=>oE h λAa Ah h=>gl 8 [bA m 1 Af z,bF m 1 Af z] k z λk=>cC k m call113 z (Qrt fu _ _ (Qac (m.r Ae) (m.r Ab) (m.r Ac)) Ah) λAk e a k m=>pN 2 k z λa k=>sT (cs':=[I Aa.1.f0,I Aa.1.fW,I Aa.1.fH,I Aa.1.fD,I Aa.1.fF,I Aa.1.fQ,I Aa.1.fE]) sizeOf53 m 0 Aj 0 k z z λAl a k e m Ag=>ul 4 k z λk=>?_;cases h;exact Qn3 k z (RV.cA k z Q5w (Ag.at (m.a 0 z) 0 7 z z z) z) (RV.tmp k z) ⟨z,m.ext⟩
theorem Qa0 (fu:Nat) {w0:World} (n1:Int) (Ab:Int) (Ac:Int)  {r:Bool}
    (h:Qar fu n1 Ab Ac=some r) :
    Calls Tryz.prog 57 #[I n1,I Ab,I Ac] w0 λe w=>e=.returned (.bool (r))∧Ext [] w0 w:=by
 refine eg (vs:=[_,_,_]) func57 z ntmps57 z λk m=>?_;unfold Qar at h;refine uc 11 k z λk=>bS h k 10 z (λ_ h k=>?_) λ_ h k=>?_
 · refine ul 8 k z λk=>fS h k m z z
 refine ul 8 k z λk=>fS h k m z z
theorem Qgx (fu:Nat) {w0:World} (n1:Int)  {r:Bool}
    (h:Qds fu n1=some r) :
    Calls Tryz.prog 216 #[I n1] w0 λe w=>e=.returned (.bool (r))∧Ext [] w0 w:=by
 refine eg (vs:=[_]) func216 z ntmps216 z λk m=>?_;unfold Qds at h;refine oE h λx2 Aa h=>uc 8 k z λk=>cC k m call57 z (Qa0 fu _ _ _  Aa) λw5 e a k m=>ul 4 k z λk=>fS h k m z z
theorem Qp0 (fu:Nat) {w0:World} (x1:Pallet)  {r:Bool}
    (h:Qek fu x1=some r) :
    Calls Tryz.prog 145 #[.agg (Flat.e (x1)).toArray] w0 λe w=>e=.returned (.bool (r))∧Ext [] w0 w:=by
 refine eg (vs:=[_]) func145 z ntmps145 z λk m=>?_;unfold Qek at h;refine uc 2 k z λk=>Qbo (cs:=[I x1.fW,I x1.fD,I x1.fH,I x1.fQ]) m k z z z z z z λb2 w4 a k m e Ad=>oE h λx5 Af h=>gl 7 [bF m 0 Ad z] k z λk=>cC k m call216 z (Qgx fu _  Af) λw9 e a k m=>pN 1 k z λa k=>bS h k 6 z (λ_ h k=>?_) λ_ h k=>?_
 · refine oE h λAj Ah h=>gl 2 [bF m 0 Ad z] k z λk=>cC k m call216 z (Qgx fu _  Ah) λAo e a k m=>pN 2 k z λa k=>bS h k 11 z (λ_ h k=>?_) λ_ h k=>?_
   · refine oE h λAe Ag h=>gl 2 [bF m 0 Ad z] k z λk=>cC k m call216 z (Qgx fu _  Ag) λAl e a k m=>pN 2 k z λa k=>bS h k 16 z (λ_ h k=>?_) λ_ h k=>?_
     · refine oE h λAk Ai h=>gl 2 [bF m 0 Ad z] k z λk=>cC k m call57 z (Qa0 fu _ _ _  Ai) λAm e a k m=>ul 5 k z λk=>fS h k m z z
     refine ul 8 k z λk=>fS h k m z z
   refine ul 13 k z λk=>fS h k m z z
 refine ul 18 k z λk=>fS h k m z z
theorem Qni (fu:Nat) {w0:World} (Ab:List Pair) (f5:Pair→Option Bool) {v2:Value} {F3:List Nat} (Ac:rd w0 F3 [v2] Ab) {v6:Value} (Al:Qt7 Tryz.prog w0 v6 f5) {r:Int}
    (h:Qbr fu Ab f5=some r) :
    Calls Tryz.prog 217 #[v2,v6] w0 λe w=>e=.returned (I r)∧Ext [] w0 w:=by
 refine eg (vs:=[_,_]) func217 z ntmps217 z λk m=>?_;obtain ⟨Aj,Ag,rfl,Af,Ai⟩:=Al;unfold Qbr at h;refine gc 14 [lF (α:=Pair) Ac] k z λk=>lG (λn a w=>∃ Aa,K 19 [(0,v2),(1,(.func (.func Aj) #[] Ag.toArray)),(7,I (Ab.length:Int)),(8,I Aa)] a∧St [] w0 w []∧Qau fu Ab f5 n Aa=some r) ?_ fu ?_
 · rintro Am a As ⟨Aa,k,m,h⟩;rw [Qau.eq_2] at h;unfold Qb4 at h;refine uc 6 k z λk=>cJ h k z (λh=>?_) λh=>?_
   · refine o2 h λAp Ad Aq Ak h=>gc 17 [iF Ac Ad,eA (m.r Ac) Ad] k z λk=>Qob k Af z z z z z z (Ai _ _ _ _ m.ext z Ak) λAo Ar hR=>?_;obtain ⟨rfl,e⟩:=hR;refine ⟨_,z,λa k=>?_⟩;have m:=m.step e;refine ul 2 k z λk=>cJ h k z (λh=>?_) λh=>?_
     · refine uc 12 k z λk=>fS h k m z z
     refine uc 8 k z λk=>?_;exact ⟨_,k.p z,m.sl [] z,h⟩
   refine uc 11 k z λk=>fS h k m z z
 exact ⟨_,k.p z,m.sl [] z,h⟩
theorem Qf4 (fu:Nat) {w0:World} (Aa:List Pair) (f5:Pair→Option Bool) {v2:Value} {F3:List Nat} (Ab:rd w0 F3 [v2] Aa) {v6:Value} (Ah:Qt7 Tryz.prog w0 v6 f5) {r:Bool}
    (h:Qax fu Aa f5=some r) :
    Calls Tryz.prog 146 #[v2,v6] w0 λe w=>e=.returned (.bool (r))∧Ext [] w0 w:=by
 refine eg (vs:=[_,_]) func146 z ntmps146 z λk m=>?_;obtain ⟨Ak,Ai,rfl,Ad,Ag⟩:=Ah;unfold Qax at h;refine oE h λAl Ae h=>uc 9 k z λk=>cC k m call217 z (Qni fu _ _ (m.r Ab) ⟨_,_,z,Ad,λw Ac Af r e=>Ag w Ac Af r (m.ext.trans e (by simp))⟩ Ae) λAj e a k m=>ul 5 k z λk=>fS h k m z z
theorem Qu3 (fu:Nat) {w0:World} (p1:Pair)  {r:Bool}
    (h:Qjk fu p1=some r) :
    Calls Tryz.prog 147 #[.agg (Flat.e (p1)).toArray] w0 λe w=>e=.returned (.bool (r))∧Ext [] w0 w:=by
 refine eg (vs:=[_]) func147 z ntmps147 z λk m=>?_;unfold Qjk at h;refine uc 2 k z λk=>Qbo (cs:=[I p1.fA,I p1.fB]) m k z z z z z z λb2 w4 a k m e Ab=>oE h λx5 Ac h=>gl 7 [bF m 0 Ab z] k z λk=>cC k m call57 z (Qa0 fu _ _ _  Ac) λw9 e a k m=>pN 2 k z λa k=>bS h k 7 z (λ_ h k=>?_) λ_ h k=>?_
 · refine ul 9 k z λk=>fS h k m z z
 refine oE h λAf Ad h=>gl 2 [bF m 0 Ab z] k z λk=>cC k m call57 z (Qa0 fu _ _ _  Ad) λAe e a k m=>ul 6 k z λk=>fS h k m z z
theorem Qdl (fu:Nat) {w0:World} (Aa:List Typ) (f5:Typ→Option Bool) {v2:Value} {F3:List Nat} (Ab:rd w0 F3 [v2] Aa) {v6:Value} (Ah:Qt7 Tryz.prog w0 v6 f5) {r:Bool}
    (h:Qam fu Aa f5=some r) :
    Calls Tryz.prog 82 #[v2,v6] w0 λe w=>e=.returned (.bool (r))∧Ext [] w0 w:=by
 refine eg (vs:=[_,_]) func82 z ntmps82 z λk m=>?_;obtain ⟨Ak,Ai,rfl,Ad,Ag⟩:=Ah;unfold Qam at h;refine oE h λAl Ae h=>uc 9 k z λk=>cC k m call156 z (Qgs fu _ _ (m.r Ab) ⟨_,_,z,Ad,λw Ac Af r e=>Ag w Ac Af r (m.ext.trans e (by simp))⟩ Ae) λAj e a k m=>ul 5 k z λk=>fS h k m z z
theorem Q0t (fu:Nat) {w0:World} (x1:Typ)  {r:Bool}
    (h:Qp5 fu x1=some r) :
    Calls Tryz.prog 149 #[.agg (Flat.e (x1)).toArray] w0 λe w=>e=.returned (.bool (r))∧Ext [] w0 w:=by
 refine eg (vs:=[_]) func149 z ntmps149 z λk m=>?_;unfold Qp5 at h;refine uc 2 k z λk=>Qbo (cs:=[I x1.f0,I x1.fW,I x1.fH,I x1.fD,I x1.fF,I x1.fQ,I x1.fE]) m k z z z z z z λb2 w4 a k m e Aa=>oE h λx5 Ao h=>gl 7 [bF m 0 Aa z] k z λk=>cC k m call57 z (Qa0 fu _ _ _  Ao) λw9 e a k m=>pN 1 k z λa k=>bS h k 6 z (λ_ h k=>?_) λ_ h k=>?_
 · refine oE h λAj Ar h=>gl 2 [bF m 0 Aa z] k z λk=>cC k m call216 z (Qgx fu _  Ar) λAx e a k m=>pN 2 k z λa k=>bS h k 11 z (λ_ h k=>?_) λ_ h k=>?_
   · refine oE h λAm Aq h=>gl 2 [bF m 0 Aa z] k z λk=>cC k m call216 z (Qgx fu _  Aq) λBa e a k m=>pN 2 k z λa k=>bS h k 16 z (λ_ h k=>?_) λ_ h k=>?_
     · refine oE h λAk As h=>gl 2 [bF m 0 Aa z] k z λk=>cC k m call216 z (Qgx fu _  As) λAy e a k m=>pN 2 k z λa k=>bS h k 21 z (λ_ h k=>?_) λ_ h k=>?_
       · refine oE h λAh Al h=>gl 2 [bF m 0 Aa z] k z λk=>cC k m call57 z (Qa0 fu _ _ _  Al) λAv e a k m=>pN 2 k z λa k=>bS h k 26 z (λ_ h k=>?_) λ_ h k=>?_
         · refine oE h λAi Ap h=>gl 2 [bF m 0 Aa z] k z λk=>cC k m call57 z (Qa0 fu _ _ _  Ap) λAz e a k m=>pN 2 k z λa k=>bS h k 31 z (λ_ h k=>?_) λ_ h k=>?_
           · refine oE h λAw At h=>gl 2 [bF m 0 Aa z] k z λk=>cC k m call57 z (Qa0 fu _ _ _  At) λAu e a k m=>ul 5 k z λk=>fS h k m z z
           refine ul 8 k z λk=>fS h k m z z
         refine ul 13 k z λk=>fS h k m z z
       refine ul 18 k z λk=>fS h k m z z
     refine ul 23 k z λk=>fS h k m z z
   refine ul 28 k z λk=>fS h k m z z
 refine ul 33 k z λk=>fS h k m z z
theorem Qu9 (fu:Nat) {w0:World} (t1:Typ)  {r:Bool}
    (h:Qjd fu t1=some r) :
    Calls Tryz.prog 148 #[.agg (Flat.e (t1)).toArray] w0 λe w=>e=.returned (.bool (r))∧Ext [] w0 w:=by
 refine eg (vs:=[_]) func148 z ntmps148 z λk m=>?_;unfold Qjd at h;refine uc 2 k z λk=>Qbo (cs:=[I t1.f0,I t1.fW,I t1.fH,I t1.fD,I t1.fF,I t1.fQ,I t1.fE]) m k z z z z z z λb2 w4 a k m e Aa=>oE h λx5 Ab h=>gl 6 [bA m 0 Aa z] k z λk=>cC k m call149 z (Q0t fu (t1:Typ)  Ab) λw9 e a k m=>ul 5 k z λk=>fS h k m z z
theorem Q0y (fu:Nat) {w0:World} (x1:Item)  {r:Bool}
    (h:Qpz fu x1=some r) :
    Calls Tryz.prog 150 #[.agg (Flat.e (x1)).toArray] w0 λe w=>e=.returned (.bool (r))∧Ext [] w0 w:=by
 refine eg (vs:=[_]) func150 z ntmps150 z λk m=>?_;unfold Qpz at h;refine uc 2 k z λk=>Qbo (cs:=[I x1.f0,I x1.fW,I x1.fH,I x1.fD,I x1.fQ,I x1.fL,I x1.fM]) m k z z z z z z λb2 w4 a k m e Aa=>oE h λx5 Ao h=>gl 7 [bF m 0 Aa z] k z λk=>cC k m call57 z (Qa0 fu _ _ _  Ao) λw9 e a k m=>pN 1 k z λa k=>bS h k 6 z (λ_ h k=>?_) λ_ h k=>?_
 · refine oE h λAj Ar h=>gl 2 [bF m 0 Aa z] k z λk=>cC k m call216 z (Qgx fu _  Ar) λAx e a k m=>pN 2 k z λa k=>bS h k 11 z (λ_ h k=>?_) λ_ h k=>?_
   · refine oE h λAm Aq h=>gl 2 [bF m 0 Aa z] k z λk=>cC k m call216 z (Qgx fu _  Aq) λBa e a k m=>pN 2 k z λa k=>bS h k 16 z (λ_ h k=>?_) λ_ h k=>?_
     · refine oE h λAk As h=>gl 2 [bF m 0 Aa z] k z λk=>cC k m call216 z (Qgx fu _  As) λAy e a k m=>pN 2 k z λa k=>bS h k 21 z (λ_ h k=>?_) λ_ h k=>?_
       · refine oE h λAh Al h=>gl 2 [bF m 0 Aa z] k z λk=>cC k m call57 z (Qa0 fu _ _ _  Al) λAv e a k m=>pN 2 k z λa k=>bS h k 26 z (λ_ h k=>?_) λ_ h k=>?_
         · refine oE h λAi Ap h=>gl 2 [bF m 0 Aa z] k z λk=>cC k m call57 z (Qa0 fu _ _ _  Ap) λAz e a k m=>pN 2 k z λa k=>bS h k 31 z (λ_ h k=>?_) λ_ h k=>?_
           · refine oE h λAw At h=>gl 2 [bF m 0 Aa z] k z λk=>cC k m call57 z (Qa0 fu _ _ _  At) λAu e a k m=>ul 5 k z λk=>fS h k m z z
           refine ul 8 k z λk=>fS h k m z z
         refine ul 13 k z λk=>fS h k m z z
       refine ul 18 k z λk=>fS h k m z z
     refine ul 23 k z λk=>fS h k m z z
   refine ul 28 k z λk=>fS h k m z z
 refine ul 33 k z λk=>fS h k m z z
theorem Qxt (fu:Nat) {w0:World} (r1:Request) {Ap:List Value} {F3:List Nat} (Bd:rd w0 F3 Ap r1) {r:Bool}
    (h:Qm4 fu r1=some r) :
    Calls Tryz.prog 76 #[.agg Ap.toArray] w0 λe w=>e=.returned (.bool (r))∧Ext [] w0 w:=by
 refine eg (vs:=[_]) func76 z ntmps76 z λk m=>?_;obtain ⟨v5,F6,v7,F8,v9,Bv,rfl,rfl,Ao,Am,Ah⟩:=Bd;unfold Qm4 at h;refine uc 2 k z λk=>Qbo (cs:=(cR r1 v5 v7 v9)) m k z z z z z z λAl As a k m e Aa=>ul 3 k z λk=>cg (λa w=>K 70 [(1,pt Al)] a∧St [] w0 w [([Al],As)]∧Qma fu r1=some r) ?_ ?_
 · rintro a Bq ⟨k,m,h⟩;unfold Qma at h;refine oE h λCg Bo h=>gc 5 [bF m 0 Aa z] k z λk=>cC k m call146 z (Qf4 fu _ _ (m.r Ao) ⟨147,[],z,call147,λw Ck Cl r e Bp hx=>by subst Bp; have m:=m.step e; exact Qu3 fu _  hx⟩ Bo) λCb e a k m=>ul 2 k z λk=>cI h k rfl (λBb h=>?_) λBb h=>?_
   · refine uc 7 k z λk=>fS h k m z z
   refine uc 2 k z λk=>cg (λa w=>K 70 [(1,pt Al)] a∧St [] w0 w [([Al],As)]∧Ql7 fu r1=some r) ?_ ?_
   · rintro a Ci ⟨k,m,h⟩;unfold Ql7 at h;refine gc 15 [bF m 0 Aa z,lF (α:=Item) Ah] k z λk=>lG (λn a w=>∃ Ak Aj,K 70 [(3,I Ak),(54,v9),(55,I (r1.fV.length:Int)),(56,I Aj)] a∧St [] w0 w []∧Qed fu r1 n Ak Aj=some r) ?_ fu ?_
     · rintro Bz a Cd ⟨Ak,Aj,k,m,h⟩;rw [Qed.eq_2] at h;unfold Qik at h;refine uc 6 k z λk=>cJ h k z (λh=>?_) λh=>?_
       · refine oE h λAb Aq h=>gc 8 [iF Ah Aq,eA (m.r Ah) Aq] k z λk=>Qai (cs:=[I 0,I 0,I 0,I 0,I 0,I 0,I 0]) m k zeroValue51 z z z z z λBt Bx a k m e Aw=>sT (cs':=[I Ab.f0,I Ab.fW,I Ab.fH,I Ab.fD,I Ab.fQ,I Ab.fL,I Ab.fM]) sizeOf51 m 0 Aw 0 k z z λCa a k e m Ar=>oE h λCc Bj h=>gl 6 [bA m 0 Ar z] k z λk=>cC k m call150 z (Q0y fu (Ab:Item)  Bj) λBr e a k m=>ul 3 k z λk=>cJ h k z (λh=>?_) λh=>?_
         · refine uc 12 k z λk=>fS h k m z z
         refine gc 16 [bF m 0 Ar z] k z λk=>?_;exact ⟨_,_,k.p z,m.sl [] z,h⟩
       refine uc 13 k z λk=>fS h k m z z
     exact ⟨_,_,k.p z,m.sl [] z,h⟩
   refine oE h λAu Ax h=>gc 5 [bF m 0 Aa z,lF (α:=Typ) Am] k z λk=>cC k m call57 z (Qa0 fu _ _ _  Ax) λBy e a k m=>pN 2 k z λa k=>bS h k 36 z (λ_ h k=>?_) λ_ h k=>?_
   · refine ul 26 k z λk=>fS h k m z z
   refine oE h λBe Bg h=>gl 2 [bF m 0 Aa z] k z λk=>cC k m call82 z (Qdl fu _ _ (m.r Am) ⟨148,[],z,call148,λw Ce Bu r e At hx=>by subst At; have m:=m.step e; exact Qu9 fu _  hx⟩ Bg) λBw e a k m=>pN 2 k rfl λa k=>bS h k 41 z (λ_ h k=>?_) λ_ h k=>?_
   · refine ul 21 k z λk=>fS h k m z z
   refine oE h λBa Av h=>gl 2 [bF m 0 Aa z] k z λk=>cC k m call57 z (Qa0 fu _ _ _  Av) λCh e a k m=>pN 3 k z λa k=>bS h k 47 z (λ_ h k=>?_) λ_ h k=>?_
   · refine ul 15 k z λk=>fS h k m z z
   refine gl 7 [bF m 0 Aa z,lF (α:=Item) Ah] k z λk=>cJ h k z (λh=>?_) λh=>?_
   · refine uc 7 k z λk=>fS h k m z z
   refine uc 2 k z λk=>?_;exact ⟨k.p z,m.sl [0] z,h⟩
 refine oE h λBm Bl h=>gc 4 [bF m 0 Aa z] k z λk=>cC k m call57 z (Qa0 fu _ _ _  Bl) λBs e a k m=>pN 2 k z λa k=>bS h k 10 z (λ_ h k=>?_) λ_ h k=>?_
 · refine ul 27 k z λk=>fS h k m z z
 refine oE h λAy Bi h=>gl 2 [bA m 0 Aa z] k z λk=>cC k m call145 z (Qp0 fu (r1.fJ:Pallet)  Bi) λCm e a k m=>pN 3 k z λa k=>bS h k 16 z (λ_ h k=>?_) λ_ h k=>?_
 · refine ul 21 k z λk=>fS h k m z z
 refine oE h λBn Az h=>gl 2 [bF m 0 Aa z] k z λk=>cC k m call57 z (Qa0 fu _ _ _  Az) λCj e a k m=>pN 3 k z λa k=>bS h k 22 z (λ_ h k=>?_) λ_ h k=>?_
 · refine ul 15 k z λk=>fS h k m z z
 refine gl 7 [bF m 0 Aa z,lF (α:=Pair) Ao] k z λk=>cJ h k z (λh=>?_) λh=>?_
 · refine uc 7 k z λk=>fS h k m z z
 refine uc 2 k z λk=>?_;exact ⟨k.p z,m.sl [0] z,h⟩
theorem Qv6 (fu:Nat) {w0:World} (q1:Typ) (x2:Typ) {b3:Nat} (Aa:bx w0 b3 [I x2.f0,I x2.fW,I x2.fH,I x2.fD,I x2.fF,I x2.fQ,I x2.fE] 53) {r:Bool}
    (h:Qpd fu q1 x2=some r) :
    Calls Tryz.prog 151 #[.agg (Flat.e (q1)).toArray,pt b3] w0 λe w=>e=.returned (.bool (r))∧Ext [] w0 w:=by
 refine eg (vs:=[_,_]) func151 z ntmps151 z λk m=>?_;unfold Qpd at h;refine uc 2 k z λk=>Qbo (cs:=[I q1.f0,I q1.fW,I q1.fH,I q1.fD,I q1.fF,I q1.fQ,I q1.fE]) m k z z z z z z λb5 w7 a k m e Ab=>gl 14 [bF m 0 Ab z,pF (r:=[]) (Aa.at (m.a00 Aa.lt1) 0 1 z z z)] k z λk=>fS h k m z z
theorem Qvz (fu:Nat) {w0:World} (q1:Item) (x2:Item) {b3:Nat} (Aa:bx w0 b3 [I x2.f0,I x2.fW,I x2.fH,I x2.fD,I x2.fQ,I x2.fL,I x2.fM] 51) {r:Bool}
    (h:Qpf fu q1 x2=some r) :
    Calls Tryz.prog 152 #[.agg (Flat.e (q1)).toArray,pt b3] w0 λe w=>e=.returned (.bool (r))∧Ext [] w0 w:=by
 refine eg (vs:=[_,_]) func152 z ntmps152 z λk m=>?_;unfold Qpf at h;refine uc 2 k z λk=>Qbo (cs:=[I q1.f0,I q1.fW,I q1.fH,I q1.fD,I q1.fQ,I q1.fL,I q1.fM]) m k z z z z z z λb5 w7 a k m e Ab=>gl 14 [bF m 0 Ab z,pF (r:=[]) (Aa.at (m.a00 Aa.lt1) 0 1 z z z)] k z λk=>fS h k m z z
theorem Qnr (fu:Nat) {w0:World} (Ab:List Item) (f5:Item→Option Bool) {v2:Value} {F3:List Nat} (Ac:rd w0 F3 [v2] Ab) {v6:Value} (Al:Qt7 Tryz.prog w0 v6 f5) {r:Int}
    (h:Qbx fu Ab f5=some r) :
    Calls Tryz.prog 155 #[v2,v6] w0 λe w=>e=.returned (I r)∧Ext [] w0 w:=by
 refine eg (vs:=[_,_]) func155 z ntmps155 z λk m=>?_;obtain ⟨Aj,Ag,rfl,Af,Ai⟩:=Al;unfold Qbx at h;refine gc 14 [lF (α:=Item) Ac] k z λk=>lG (λn a w=>∃ Aa,K 19 [(0,v2),(1,(.func (.func Aj) #[] Ag.toArray)),(7,I (Ab.length:Int)),(8,I Aa)] a∧St [] w0 w []∧Qat fu Ab f5 n Aa=some r) ?_ fu ?_
 · rintro Am a As ⟨Aa,k,m,h⟩;rw [Qat.eq_2] at h;unfold Qb3 at h;refine uc 6 k z λk=>cJ h k z (λh=>?_) λh=>?_
   · refine o2 h λAp Ad Aq Ak h=>gc 17 [iF Ac Ad,eA (m.r Ac) Ad] k z λk=>Qob k Af z z z z z z (Ai _ _ _ _ m.ext z Ak) λAo Ar hR=>?_;obtain ⟨rfl,e⟩:=hR;refine ⟨_,z,λa k=>?_⟩;have m:=m.step e;refine ul 2 k z λk=>cJ h k z (λh=>?_) λh=>?_
     · refine uc 12 k z λk=>fS h k m z z
     refine uc 8 k z λk=>?_;exact ⟨_,k.p z,m.sl [] z,h⟩
   refine uc 11 k z λk=>fS h k m z z
 exact ⟨_,k.p z,m.sl [] z,h⟩
theorem Qdk (fu:Nat) {w0:World} (Aa:List Item) (f5:Item→Option Bool) {v2:Value} {F3:List Nat} (Ab:rd w0 F3 [v2] Aa) {v6:Value} (Ah:Qt7 Tryz.prog w0 v6 f5) {r:Bool}
    (h:Qaw fu Aa f5=some r) :
    Calls Tryz.prog 79 #[v2,v6] w0 λe w=>e=.returned (.bool (r))∧Ext [] w0 w:=by
 refine eg (vs:=[_,_]) func79 z ntmps79 z λk m=>?_;obtain ⟨Ak,Ai,rfl,Ad,Ag⟩:=Ah;unfold Qaw at h;refine oE h λAl Ae h=>uc 9 k z λk=>cC k m call155 z (Qnr fu _ _ (m.r Ab) ⟨_,_,z,Ad,λw Ac Af r e=>Ag w Ac Af r (m.ext.trans e (by simp))⟩ Ae) λAj e a k m=>ul 5 k z λk=>fS h k m z z
theorem Qv2 (fu:Nat) {w0:World} (p1:Pair) (x2:Request) {v5:Value} {F6:List Nat} {v8:Value} {F9:List Nat} {Ac:Value} {Ae:List Nat} {b3:Nat} (Ab:bx w0 b3 (cR x2 v5 v8 Ac) 37) (Ai:rd w0 F6 [v5] x2.fT) (Aj:rd w0 F9 [v8] x2.fG) (Af:rd w0 Ae [Ac] x2.fV) {r:Bool}
    (h:Qlg fu p1 x2=some r) :
    Calls Tryz.prog 153 #[.agg (Flat.e (p1)).toArray,pt b3] w0 λe w=>e=.returned (.bool (r))∧Ext [] w0 w:=by
 refine eg (vs:=[_,_]) func153 z ntmps153 z λk m=>?_;unfold Qlg at h;refine uc 2 k z λk=>Qbo (cs:=[I p1.fA,I p1.fB]) m k z z z z z z λAh Ag a k m e Ad=>gl 11 [bF m 0 Ad z,pF (r:=[]) (Ab.at (m.a00 Ab.lt1) 5 1 z z z)] k z λk=>bS h k 9 z (λ_ h k=>?_) λ_ h k=>?_
 · refine ul 10 k z λk=>fS h k m z z
 refine gl 10 [bF m 0 Ad z,pF (r:=[]) (Ab.at (m.a00 Ab.lt1) 5 1 z z z)] k z λk=>fS h k m z z
theorem Qyz (fu:Nat) {w0:World} (r1:Request) {Aq:List Value} {F3:List Nat} (Bm:rd w0 F3 Aq r1) {r:Bool}
    (h:Qoh fu r1=some r) :
    Calls Tryz.prog 77 #[.agg Aq.toArray] w0 λe w=>e=.returned (.bool (r))∧Ext [] w0 w:=by
 refine eg (vs:=[_]) func77 z ntmps77 z λk m=>?_;obtain ⟨v5,F6,v7,F8,v9,By,rfl,rfl,Ai,Aa,Ab⟩:=Bm;unfold Qoh at h;refine uc 2 k z λk=>Qbo (cs:=(cR r1 v5 v7 v9)) m k z z z z z z λAg Am a k m e Ae=>gl 13 [bF m 0 Ae z,lF (α:=Typ) Aa] k z λk=>lG (λn a w=>∃ Al,K 59 [(1,pt Ag),(10,v7),(11,I (r1.fG.length:Int)),(12,I Al)] a∧St [] w0 w [([Ag],Am)]∧Qe2 fu r1 n Al=some r) ?_ fu ?_
 · rintro Bs a Bu ⟨Al,k,m,h⟩;rw [Qe2.eq_2] at h;unfold Qkt at h;refine uc 6 k z λk=>cJ h k z (λh=>?_) λh=>?_
   · refine oE h λAf Ar h=>gc 9 [iF Aa Ar,eA (m.r Aa) Ar] k z λk=>Qai (cs:=[I 0,I 0,I 0,I 0,I 0,I 0,I 0]) m k zeroValue53 z z z z z λBf Cg a k m e Bb=>pN 1 k z λa k=>sT (cs':=[I Af.f0,I Af.fW,I Af.fH,I Af.fD,I Af.fF,I Af.fQ,I Af.fE]) sizeOf53 m 0 Bb 0 k z z λBq a k e m Bh=>oE h λBp Bl h=>gl 7 [bF m 1 Ae z] k z λk=>Q4t Aa Bl k Je4 z z z z z z λCi a k At=>pN 1 k z λa k=>oE h λCr Au h=>cC k m call82 z (Qdl fu _ _ (m.r At) ⟨151,[pt Bf],z,call151,λw Ce Bt r e Be hx=>by subst Be; have m:=m.step e; exact Qv6 fu _ _ (Bh.agr (m.a 0 rfl) (by simp)) hx⟩ Au) λCm e a k m=>ul 2 k z λk=>cI h k rfl (λBd h=>?_) λBd h=>?_
     · refine uc 11 k z λk=>fS h k m z z
     refine uc 8 k z λk=>?_;exact ⟨_,k.p z,m.sl [1] z,h⟩
   refine gc 15 [bF m 0 Ae z,lF (α:=Item) Ab] k z λk=>lG (λn a w=>∃ Ah,K 59 [(1,pt Ag),(25,v9),(26,I (r1.fV.length:Int)),(27,I Ah)] a∧St [] w0 w [([Ag],Am)]∧Qda fu r1 n Ah=some r) ?_ fu ?_
   · rintro Bk a Cb ⟨Ah,k,m,h⟩;rw [Qda.eq_2] at h;unfold Qla at h;refine uc 6 k z λk=>cJ h k z (λh=>?_) λh=>?_
     · refine uc 2 k z λk=>cg (λa w=>K 59 [(1,pt Ag),(25,v9),(26,I (r1.fV.length:Int)),(27,I Ah)] a∧St [] w0 w [([Ag],Am)]∧Qnx fu (Qda fu r1 Bk) Ah=some r) ?_ ?_
       · rintro a Cs ⟨k,m,h⟩;unfold Qnx at h;refine uc 5 k z λk=>?_;exact ⟨_,k.p z,m.sl [0] z,h⟩
       refine oE h λAc Ap h=>gc 6 [iF Ab Ap,eA (m.r Ab) Ap] k z λk=>Qai (cs:=[I 0,I 0,I 0,I 0,I 0,I 0,I 0]) m k zeroValue51 z z z z z λAx Cq a k m e Bi=>pN 1 k z λa k=>sT (cs':=[I Ac.f0,I Ac.fW,I Ac.fH,I Ac.fD,I Ac.fQ,I Ac.fL,I Ac.fM]) sizeOf51 m 0 Bi 0 k z z λBx a k e m As=>gl 10 [bF m 0 As z,bF m 1 Ae z] k z λk=>bS h k 37 z (λ_ h k=>?_) λ_ h k=>?_
       · refine ul 21 k z λk=>fS h k m z z
       refine oE h λCl Av h=>gl 3 [bF m 1 Ae z] k z λk=>Q4t Ab Av k Jhp z z z z z z λCd a k Ao=>pN 1 k z λa k=>oE h λCt Bg h=>cC k m call79 z (Qdk fu _ _ (m.r Ao) ⟨152,[pt Ax],z,call152,λw Bz Ck r e Bc hx=>by subst Bc; have m:=m.step e; exact Qvz fu _ _ (As.agr (m.a 0 rfl) (by simp)) hx⟩ Bg) λBv e a k m=>pN 1 k rfl λa k=>ul 2 k z λk=>cI h k rfl (λBn h=>?_) λBn h=>?_
       · refine uc 11 k z λk=>fS h k m z z
       refine uc 3 k z λk=>?_;exact ⟨k.p z,m.sl [1] z,h⟩
     refine oE h λAd Ay h=>gc 8 [bA m 0 Ae z] k z λk=>cC k m call75 z (Qrs fu _ (Qac (m.r Ai) (m.r Aa) (m.r Ab)) Ay) λCj e a k m=>pN 3 k z λa k=>Qai (cs:=[I 0,I 0,I 0,I 0,I 0,I 0,I 0]) m k zeroValue53 z z z z z λBr Co a k m e Aw=>sT (cs':=[I Ad.1.f0,I Ad.1.fW,I Ad.1.fH,I Ad.1.fD,I Ad.1.fF,I Ad.1.fQ,I Ad.1.fE]) sizeOf53 m 0 Aw 0 k z z λCp a k e m Cc=>ul 7 k z λk=>bS h k 52 z (λ_ h k=>?_) λ_ h k=>?_
     · refine oE h λBw Az h=>gl 3 [bF m 1 Ae z] k z λk=>cC k m call146 z (Qf4 fu _ _ (m.r Ai) ⟨153,[pt Ag],z,call153,λw Ch Cn r e Bo hx=>by subst Bo; have m:=m.step e; exact Qv2 fu _ _ (Ae.agr (m.a 1 rfl) (by simp)) (m.r Ai) (m.r Aa) (m.r Ab) hx⟩ Az) λCa e a k m=>pN 3 k rfl λa k=>ul 3 k z λk=>fS h k m rfl rfl
     refine ul 10 k z λk=>fS h k m z z
   exact ⟨_,k.p z,m.sl [0] z,h⟩
 exact ⟨_,k.p z,m.sl [0] z,h⟩
theorem Qpt (fu:Nat) {w0:World} (Ab:List Pair) (v5:Pair) {v2:Value} {F3:List Nat} (Ac:rd w0 F3 [v2] Ab) {r:Int}
    (h:Qc8 fu Ab v5=some r) :
    Calls Tryz.prog 266 #[v2,.agg (Flat.e (v5)).toArray] w0 λe w=>e=.returned (I r)∧Ext [] w0 w:=by
 refine eg (vs:=[_,_]) func266 z ntmps266 z λk m=>?_;unfold Qc8 at h;refine uc 2 k z λk=>Qbo (cs:=[I v5.fA,I v5.fB]) m k z z z z z z λb6 w9 a k m e Af=>gl 12 [lF (α:=Pair) Ac] k z λk=>lG (λn a w=>∃ Aa,K 19 [(0,v2),(3,pt b6),(7,I (Ab.length:Int)),(8,I Aa)] a∧St [] w0 w [([b6],w9)]∧Qa5 fu Ab v5 n Aa=some r) ?_ fu ?_
 · rintro Ak a Aj ⟨Aa,k,m,h⟩;rw [Qa5.eq_2] at h;unfold Qck at h;refine uc 6 k z λk=>cJ h k z (λh=>?_) λh=>?_
   · refine uc 11 k z λk=>Qij [] Qhu m z λAi hMd=>?_;have m:=hMd;have s:=Ext.refl ([]:List Nat) Ai;refine oE h λAe Ad h=>dr [1,2,0,3,4] 5 [bA hMd 0 Af z,iF Ac Ad,eA (hMd.r Ac) Ad] k z s λk=>dT k 5 z z s (λw s=>Jka Jkn (x:=v5) (y:=Ae) k z z z z z) λa k=>dD ((Qad ?_));refine cJ h k z (λh=>?_) λh=>?_
     · refine uc 12 k z λk=>fS h k m z z
     refine uc 8 k z λk=>?_;exact ⟨_,k.p z,m.sl [0] z,h⟩
   refine uc 11 k z λk=>fS h k m z z
 exact ⟨_,k.p z,m.sl [0] z,h⟩
theorem Qoc (fu:Nat) {w0:World} (Aa:List Pair) (v5:Pair) {v2:Value} {F3:List Nat} (Ab:rd w0 F3 [v2] Aa) {r:Bool}
    (h:Qcr fu Aa v5=some r) :
    Calls Tryz.prog 218 #[v2,.agg (Flat.e (v5)).toArray] w0 λe w=>e=.returned (.bool (r))∧Ext [] w0 w:=by
 refine eg (vs:=[_,_]) func218 z ntmps218 z λk m=>?_;unfold Qcr at h;refine uc 2 k z λk=>Qbo (cs:=[I v5.fA,I v5.fB]) m k z z z z z z λb6 w9 a k m e Ac=>oE h λAe Ad h=>gl 7 [bA m 0 Ac z] k z λk=>cC k m call266 z (Qpt fu _ (v5:Pair) (m.r Ab) Ad) λAf e a k m=>ul 5 k z λk=>fS h k m z z
theorem Qp1 (fu:Nat) {w0:World} (Aa:List Pair) (a5:Int) (b6:Int) {v2:Value} {F3:List Nat} (Ab:rd w0 F3 [v2] Aa) {r:Bool}
    (h:Qgy fu Aa a5 b6=some r) :
    Calls Tryz.prog 154 #[v2,I a5,I b6] w0 λe w=>e=.returned (.bool (r))∧Ext [] w0 w:=by
 refine eg (vs:=[_,_,_]) func154 z ntmps154 z λk m=>?_;unfold Qgy at h;refine uc 10 k z λk=>sv k z (Qao Jfd k (cs:=#[I a5,I b6]) (ps:=[(0,.tmp 8),(1,.tmp 9)]) z z (by kernel_rfl)) λa k=>oE h λx7 Ac h=>cC k m call218 z (Qoc fu _ (⟨a5,b6⟩:Pair) (m.r Ab) Ac) λAd e a k m=>ul 4 k z λk=>fS h k m z z
theorem Qyf (fu:Nat) {w0:World} (Ad:List Pair) (Aa:Int) {v2:Value} {F3:List Nat} (Ac:rd w0 F3 [v2] Ad) {r:Bool}
    (h:Qod fu Ad Aa=some r) :
    Calls Tryz.prog 78 #[v2,I Aa] w0 λe w=>e=.returned (.bool (r))∧Ext [] w0 w:=by
 refine eg (vs:=[_,_]) func78 z ntmps78 z λk m=>?_;unfold Qod at h;refine oE h λx6 Ap h=>uc 9 k z λk=>cC k m call57 z (Qa0 fu _ _ _  Ap) λw9 e a k m=>ul 3 k z λk=>cJ h k z (λh=>?_) λh=>?_
 · refine uc 7 k z λk=>fS h k m z z
 refine uc 10 k z λk=>lG (λn a w=>∃ Ab,K 34 [(0,v2),(1,I Aa),(10,I Aa),(11,I Ab)] a∧St [] w0 w []∧Qe0 fu Ad Aa n Ab=some r) ?_ fu ?_
 · rintro Ag a As ⟨Ab,k,m,h⟩;rw [Qe0.eq_2] at h;unfold Qjz at h;refine uc 6 k z λk=>cJ h k z (λh=>?_) λh=>?_
   · refine oE h λAt Al h=>uc 16 k z λk=>cC k m call154 z (Qp1 fu _ _ _ (m.r Ac) Al) λAu e a k m=>ul 3 k z λk=>cJ h k z (λh=>?_) λh=>?_
     · refine uc 12 k z λk=>fS h k m z z
     refine uc 9 k z λk=>lG (λn a w=>∃ Ae,K 34 [(0,v2),(1,I Aa),(5,I Ab),(10,I Aa),(11,I Ab),(19,I Aa),(20,I Ae)] a∧St [] w0 w []∧Qe7 fu (Qe0 fu Ad Aa Ag) Ad Aa Ab n Ae=some r) ?_ fu ?_
     · rintro Aq a Aw ⟨Ae,k,m,h⟩;rw [Qe7.eq_2] at h;unfold Qk6 at h;refine uc 6 k z λk=>cJ h k z (λh=>?_) λh=>?_
       · refine oE h λAv Ah h=>uc 15 k z λk=>cC k m call154 z (Qp1 fu _ _ _ (m.r Ac) Ah) λAr e a k m=>pN 3 k z λa k=>oE h λAy Am h=>cC k m call154 z (Qp1 fu _ _ _ (m.r Ac) Am) λAx e a k m=>sv k z (Ja9 k underlying4 z z z) λa k=>ul 2 k z λk=>cJ h k z (λh=>?_) λh=>?_
         · refine uc 15 k z λk=>fS h k m z z
         refine uc 8 k z λk=>?_;exact ⟨_,k.p z,m.sl [] z,h⟩
       refine uc 11 k z λk=>?_;exact ⟨_,k.p z,m.sl [] z,h⟩
     exact ⟨_,k.p z,m.sl [] z,h⟩
   refine uc 11 k z λk=>fS h k m z z
 exact ⟨_,k.p z,m.sl [] z,h⟩
theorem Qh8 (fu:Nat) {w0:World} (x1:List Int) {v2:Value} {F3:List Nat} (Aa:ow w0 F3 [v2] x1) {r:List Int}
    (h:Qc2 fu x1=some r) :
    Calls Tryz.prog 87 #[v2] w0 λe w=>∃ H:List Nat,e=.returned (.tuple #[])∧Ext F3 w0 w∧(∀ b∈H,b∈F3∨w0.heap.size≤b)∧ow w H [v2] r :=
  (Q7d (λblk off cap zs w=>Tryz.slices_Sort_int blk off cap zs w) (λp cap w=>Tryz.slices_Sort_int_none p cap w) x1 Aa h).mono λe w ⟨h1,h2,h3⟩=>⟨_,h1,h2,λb hb=>.inl hb,h3⟩
theorem Qxe (fu:Nat) {w0:World} (x1:Item) (t2:Typ)  {r:Bool}
    (h:Qqr fu x1 t2=some r) :
    Calls Tryz.prog 81 #[.agg (Flat.e (x1)).toArray,.agg (Flat.e (t2)).toArray] w0 λe w=>e=.returned (.bool (r))∧Ext [] w0 w:=by
 refine eg (vs:=[_,_]) func81 z ntmps81 z λk m=>?_;unfold Qqr at h;refine uc 2 k z λk=>Qbo (cs:=[I x1.f0,I x1.fW,I x1.fH,I x1.fD,I x1.fQ,I x1.fL,I x1.fM]) m k z z z z z z λb3 w5 a k m e Ag=>Qbo (cs:=[I t2.f0,I t2.fW,I t2.fH,I t2.fD,I t2.fF,I t2.fQ,I t2.fE]) m k z z z z z z λb6 w9 a k m e Af=>ul 3 k z λk=>cg (λa w=>∃ Am Aj Ao Al Ai Ah Ap Ak,K 57 [(2,pt b3),(3,pt b6),(5,Aj),(6,Ah)] a∧St [] w0 w [([b3],w5),([b6],w9),(Ao,Al),(Ap,Ak)]∧ow Al Ao [Aj] Am∧ow Ak Ap [Ah] Ai∧Qq1 fu x1 t2 Am Ai=some r) ?_ ?_
 · rintro a Ce ⟨Am,Aj,Ao,Al,Ai,Ah,Ap,Ak,k,m,Br,Bg,h⟩;unfold Qq1 at h;refine oE h λCu Cb h=>uc 3 k z λk=>sC k call87 z (Qh8 fu _ (m.v Br 2 z) Cb) λCg Cv hR=>?_;obtain ⟨Cq,rfl,e,Bp,Ab⟩:=hR;refine ⟨_,z,λa k=>?_⟩;have m:=m.mut 2 z e _ (λb hb=>⟨Bp b hb,Enc.rd_lt (Enc.ow_rd Ab) b hb⟩) (Enc.ow_nd Ab);refine oE h λCj Ca h=>ul 5 k z λk=>sC k call87 z (Qh8 fu _ (m.v Bg 3 z) Ca) λCr Cs hR=>?_;obtain ⟨Ch,rfl,e,Bm,Aa⟩:=hR;refine ⟨_,z,λa k=>?_⟩;have m:=m.mut 3 z e _ (λb hb=>⟨Bm b hb,Enc.rd_lt (Enc.ow_rd Aa) b hb⟩) (Enc.ow_nd Aa);refine ul 3 k z λk=>Qij [] Qhu m z λBi hMd=>?_;have m:=hMd;have s:=Ext.refl ([]:List Nat) Bi;refine o2 h λBn Au Cd Aq h=>dr [0,3,1,2,4,5,6,7] 8 [iF (Enc.ow_rd Ab) Au,eF (hMd.q Ab 2 z) Au 0,iF (Enc.ow_rd Aa) Aq,eF (hMd.q Aa 3 z) Aq 0] k z s λk=>bS h k 32 z (λ_ h k=>?_) λ_ h k=>?_
   · refine o2 h λBt Av Bc Ay h=>dr [8,11,9,10,12,13,14,15,16] 9 [iF (Enc.ow_rd Ab) Av,eF (hMd.q Ab 2 z) Av 0,iF (Enc.ow_rd Aa) Ay,eF (hMd.q Aa 3 z) Ay 0] k z s λk=>bS h k 41 z (λ_ h k=>?_) λ_ h k=>?_
     · refine o2 h λBd At Bu Aw h=>dr [17,20,18,19,21,22,23,24,25] 9 [iF (Enc.ow_rd Ab) At,eF (hMd.q Ab 2 z) At 0,iF (Enc.ow_rd Aa) Aw,eF (hMd.q Aa 3 z) Aw 0] k z s λk=>bS h k 50 z (λ_ h k=>?_) λ_ h k=>?_
       · refine dr [26,27,28,29,30,31,32] 7 [bF hMd 0 Ag z,bF hMd 1 Af z] k z s λk=>dD ?_;refine (Qad ?_);refine wp_ret (fS h k m z z)
       refine dM [26,27,28,29,30,31,32] 7 z k z s λa k=>dD ?_;refine (Qad ?_);refine wp_ret (fS h k m z z)
     refine dM [17,18,19,20,21,22,23,24,25,26,27,28,29,30,31,32] 16 z k z s λa k=>dD ?_;refine (Qad ?_);refine wp_ret (fS h k m z z)
   refine dM [8,9,10,11,12,13,14,15,16,17,18,19,20,21,22,23,24,25,26,27,28,29,30,31,32] 25 z k z s λa k=>dD ?_;refine (Qad ?_);refine wp_ret (fS h k m z z)
 refine Qij [] Qhu m z λBv hMd=>?_;have m:=hMd;have s:=Ext.refl ([]:List Nat) Bv;refine dr [0,1,2,3,4,5,7,8,9,10,11,12] 12 [bF hMd 1 Ag z,bF hMd 1 Ag z,bF hMd 1 Ag z,bF hMd 0 Af z,bF hMd 0 Af z,bF hMd 0 Af z] k z s λk=>dG2 6 13 (by kernel_rfl) z z ?_ ?_
 · refine Qcw (cs:=[I x1.fW,I x1.fH,I x1.fD]) (ps:=[(0,.tmp 8),(1,.tmp 10),(2,.tmp 12)]) Qbm m k z z z z z z z (by decide) z (by exact fC z (fC z (fC z fN))) λAs Ba Ct a k m e Bs Bl=>?_;have Cl:=lo1 (Nat.le_trans s.size Bl);have Bj:=Qal Bs ([x1.fW,x1.fH,x1.fD]:List Int) z z z;refine ns s e λs=>dM [14] 1 z k z s λa k=>dG 13 z (Qcw (cs:=[I t2.fW,I t2.fH,I t2.fD]) (ps:=[(0,.tmp 15),(1,.tmp 17),(2,.tmp 19)]) Qbm m k z z z z z z z (by decide) z (by exact fC z (fC z (fC z fN))) λAx Bb Cp a k m e Bk Bw=>?_);have Cn:=lo1 (Nat.le_trans s.size Bw);have Bx:=Qal Bk ([t2.fW,t2.fH,t2.fD]:List Int) z z z;refine ns s e λs=>dM [15] 1 z k z s λa k=>dD ((Qad ?_));exact ⟨_,_,_,_,_,_,_,_,k.p z,m.sl [3,2,1,0] z,Bj,Bx,h⟩
 refine Qcw (cs:=[I t2.fW,I t2.fH,I t2.fD]) (ps:=[(0,.tmp 15),(1,.tmp 17),(2,.tmp 19)]) Qbm m k z z z z z z z (by decide) z (by exact fC z (fC z (fC z fN))) λAr Be Ci a k m e By Bf=>?_;have Cm:=lo1 (Nat.le_trans s.size Bf);have Bz:=Qal By ([t2.fW,t2.fH,t2.fD]:List Int) z z z;refine ns s e λs=>dG 6 z (Qcw (cs:=[I x1.fW,I x1.fH,I x1.fD]) (ps:=[(0,.tmp 8),(1,.tmp 10),(2,.tmp 12)]) Qbm m k z z z z z z z (by decide) z (by exact fC z (fC z (fC z fN))) λAz Bo Co a k m e Cc Bh=>?_);have Ck:=lo1 (Nat.le_trans s.size Bh);have Bq:=Qal Cc ([x1.fW,x1.fH,x1.fD]:List Int) z z z;refine ns s e λs=>dM [14,15] 2 z k z s λa k=>dD ((Qad ?_));exact ⟨_,_,_,_,_,_,_,_,k.p z,m.sl [3,2,0,1] z,Bq,Bz,h⟩
theorem Qze (fu:Nat) {w0:World} (x1:Item) (x2:Typ) {b3:Nat} (Aa:bx w0 b3 [I x2.f0,I x2.fW,I x2.fH,I x2.fD,I x2.fF,I x2.fQ,I x2.fE] 53) {r:Bool}
    (h:Qot fu x1 x2=some r) :
    Calls Tryz.prog 80 #[.agg (Flat.e (x1)).toArray,pt b3] w0 λe w=>e=.returned (.bool (r))∧Ext [] w0 w:=by
 refine eg (vs:=[_,_]) func80 z ntmps80 z λk m=>?_;unfold Qot at h;refine uc 2 k z λk=>Qbo (cs:=[I x1.f0,I x1.fW,I x1.fH,I x1.fD,I x1.fQ,I x1.fL,I x1.fM]) m k z z z z z z λb5 w7 a k m e Ab=>gl 6 [bA m 0 Ab z] k z λk=>sv k z (Qpn Q5w (Aa.at (m.a00 Aa.lt1) 0 7 z z z) z k z z) λa k=>oE h λx8 Ac h=>cC k m call81 z (Qxe fu (x1:Item) (x2:Typ)  Ac) λAd e a k m=>ul 5 k z λk=>fS h k m z z
theorem Qyx (fu:Nat) {w0:World} (t1:Typ) (x2:Pallet) {b3:Nat} (Aa:bx w0 b3 [I x2.fW,I x2.fD,I x2.fH,I x2.fQ] 32) {r:Bool}
    (h:Qo0 fu t1 x2=some r) :
    Calls Tryz.prog 83 #[.agg (Flat.e (t1)).toArray,pt b3] w0 λe w=>e=.returned (.bool (r))∧Ext [] w0 w:=by
 refine eg (vs:=[_,_]) func83 z ntmps83 z λk m=>?_;unfold Qo0 at h;refine uc 2 k z λk=>Qbo (cs:=[I t1.f0,I t1.fW,I t1.fH,I t1.fD,I t1.fF,I t1.fQ,I t1.fE]) m k z z z z z z λb5 w7 a k m e Ad=>gl 11 [bF m 0 Ad z,pF (r:=[]) (Aa.at (m.a00 Aa.lt1) 0 1 z z z)] k z λk=>bS h k 9 z (λ_ h k=>?_) λ_ h k=>?_
 · refine ul 27 k z λk=>fS h k m z z
 refine gl 7 [bF m 0 Ad z,pF (r:=[]) (Aa.at (m.a00 Aa.lt1) 1 1 z z z)] k z λk=>bS h k 16 z (λ_ h k=>?_) λ_ h k=>?_
 · refine ul 20 k z λk=>fS h k m z z
 refine gl 7 [bF m 0 Ad z,pF (r:=[]) (Aa.at (m.a00 Aa.lt1) 2 1 z z z)] k z λk=>bS h k 23 z (λ_ h k=>?_) λ_ h k=>?_
 · refine ul 13 k z λk=>fS h k m z z
 refine gl 13 [bF m 0 Ad z,bF m 0 Ad z,pF (r:=[]) (Aa.at (m.a00 Aa.lt1) 3 1 z z z)] k z λk=>fS h k m z z
theorem Qvs (fu:Nat) {w0:World} (r1:Request) {Af:List Value} {F3:List Nat} (At:rd w0 F3 Af r1) {r:Int}
    (h:Qpq fu r1=some r) :
    Calls Tryz.prog 34 #[.agg Af.toArray] w0 λe w=>e=.returned (I r)∧Ext [] w0 w:=by
 refine eg (vs:=[_]) func34 z ntmps34 z λk m=>?_;obtain ⟨v5,F6,v7,F8,v9,Bi,rfl,rfl,Ad,Aa,Ac⟩:=At;unfold Qpq at h;refine uc 2 k z λk=>Qbo (cs:=(cR r1 v5 v7 v9)) m k z z z z z z λBv Bt a k m e Ab=>oE h λAe Ba h=>gl 6 [bA m 0 Ab z] k z λk=>cC k m call75 z (Qrs fu _ (Qac (m.r Ad) (m.r Aa) (m.r Ac)) Ba) λBo e a k m=>pN 3 k z λa k=>Qai (cs:=[I 0,I 0,I 0,I 0,I 0,I 0,I 0]) m k zeroValue53 z z z z z λAj Be a k m e Ao=>sT (cs':=[I Ae.1.f0,I Ae.1.fW,I Ae.1.fH,I Ae.1.fD,I Ae.1.fF,I Ae.1.fQ,I Ae.1.fE]) sizeOf53 m 0 Ao 0 k z z λBn a k e m Ap=>gl 7 [bA m 1 Ab z] k z λk=>Qai (cs:=[I 0,I 0,I 0,I 0]) m k zeroValue32 z z z z z λAx Bw a k m e Ah=>sT (cs':=[I r1.fJ.fW,I r1.fJ.fD,I r1.fJ.fH,I r1.fJ.fQ]) sizeOf32 m 0 Ah 0 k z z λBf a k e m Ai=>oE h λBb As h=>gl 7 [bA m 2 Ab z] k z λk=>cC k m call76 z (Qxt fu _ (Qac (m.r Ad) (m.r Aa) (m.r Ac)) As) λBr e a k m=>ul 4 k z λk=>?_;refine cJ h k z (λh=>?_) λh=>?_
 · refine uc 8 k z λk=>fS h k m z z
 refine oE h λBh Az h=>gc 3 [bA m 2 Ab z] k z λk=>cC k m call77 z (Qyz fu _ (Qac (m.r Ad) (m.r Aa) (m.r Ac)) Az) λBc e a k m=>ul 4 k z λk=>cJ h k z (λh=>?_) λh=>?_
 · refine uc 8 k z λk=>fS h k m z z
 refine oE h λBd Ag h=>gc 6 [bF m 2 Ab z,bF m 2 Ab z] k z λk=>cC k m call78 z (Qyf fu _ _ (m.r Ad) Ag) λBl e a k m=>ul 4 k z λk=>cJ h k z (λh=>?_) λh=>?_
 · refine uc 8 k z λk=>fS h k m z z
 refine oE h λBg Aw h=>gc 5 [bF m 2 Ab z] k z λk=>cC k m call79 z (Qdk fu _ _ (m.r Ac) ⟨80,[pt Aj],z,call80,λw Bp Bm r e Al hx=>by subst Al; have m:=m.step e; exact Qze fu _ _ (Ap.agr (m.a 1 rfl) (by simp)) hx⟩ Aw) λBu e a k m=>pN 1 k rfl λa k=>ul 2 k z λk=>cI h k rfl (λAk h=>?_) λAk h=>?_
 · refine uc 8 k z λk=>fS h k m z z
 refine oE h λBj Ay h=>gc 5 [bF m 2 Ab z] k z λk=>cC k m call82 z (Qdl fu _ _ (m.r Aa) ⟨83,[pt Ax],z,call83,λw Bk Bq r e Aq hx=>by subst Aq; have m:=m.step e; exact Qyx fu _ _ (Ai.agr (m.a 0 rfl) (by simp)) hx⟩ Ay) λBs e a k m=>pN 1 k rfl λa k=>ul 2 k z λk=>cI h k rfl (λAr h=>?_) λAr h=>?_
 · refine uc 8 k z λk=>fS h k m z z
 refine uc 9 k z λk=>fS h k m z z
theorem Qjp (fu:Nat) {w0:World} (r1:Request) {Ac:List Value} {F3:List Nat} (Ae:rd w0 F3 Ac r1) {r:Bool}
    (h:Qft fu r1=some r) :
    Calls Tryz.prog 45 #[.agg Ac.toArray] w0 λe w=>e=.returned (.bool (r))∧Ext [] w0 w:=by
 refine eg (vs:=[_]) func45 z ntmps45 z λk m=>?_;obtain ⟨v5,F6,v7,F8,v9,Ah,rfl,rfl,Ad,Aa,Ab⟩:=Ae;unfold Qft at h;refine uc 2 k z λk=>Qbo (cs:=(cR r1 v5 v7 v9)) m k z z z z z z λAl Ak a k m e Af=>oE h λAj Ag h=>gl 6 [bA m 0 Af z] k z λk=>cC k m call34 z (Qvs fu _ (Qac (m.r Ad) (m.r Aa) (m.r Ab)) Ag) λAi e a k m=>ul 5 k z λk=>fS h k m z z
theorem Qho (fu:Nat) {w0:World} (Ac:List Int) {v2:Value} {F3:List Nat} (Aa:rd w0 F3 [v2] Ac) {r:(List Int)}
    (h:Qcq fu Ac=some r) :
    Calls Tryz.prog 248 #[v2] w0 λe w=>∃ (v0:Value) (G0:List Nat),e=.returned (v0)∧Ext [] w0 w∧ow w G0 [v0] r∧(∀ b∈G0,w0.heap.size≤b):=by
 refine eg (vs:=[_]) func248 z ntmps248 z λk m=>?_;unfold Qcq at h;refine uc 9 k z λk=>?_;obtain ⟨Ai,Ae,Af⟩:=Jh1 Aa;refine sv k z (Af k underlying71 z z z) λa k=>ul 2 k z λk=>Jb8 (b:=Ai) k z (λAb=>?_) (λAb=>?_)
 · have Al:=Ae Ab;rw [Al] at h;have h:some (([]:List Int))=some r:=h;refine uc 7 k z λk=>?_;cases h;exact Qbq k z (RV.tmp k z) ⟨_,[],z,m.ext,(Qce _),(by simp)⟩
 refine uc 4 k z λk=>sB (cs:=[]) (ps:=[]) Qbm m k z (by exact fN) λAq Ar Am a k m e Ah=>?_;have Ad:=Qal Ah ([]:List Int) z z z;refine pN 1 k z λa k=>oE h λAs Aj h=>Qei Aj Qbm z m 0 Ad (News.rd (m.r Aa)) z z k z z z z z z z λAp Ak Ao a k e m Ag=>ul 4 k z λk=>?_;cases h;exact Qbq k z (RV.tmp k z) ⟨_,Ak,z,m.ext,(m.v Ag 0 z),(m.fresh 0 z)⟩
theorem Qsb (fu:Nat) {w0:World} (x1:List Int) {v2:Value} {F3:List Nat} (Aa:ow w0 F3 [v2] x1) {r:List Int}
    (h:Qjo fu x1=some r) :
    Calls Tryz.prog 249 #[v2] w0 λe w=>∃ (v0:Value) (G0:List Nat),e=.returned v0∧Ext F3 w0 w∧ow w G0 [v0] r∧(∀ b∈G0,b∈F3∨w0.heap.size≤b) :=
  Q2r (λblk off cap zs w=>Tryz.slices_Compact_int blk off cap zs w) (λp cap w=>Tryz.slices_Compact_int_empty p cap w) x1 Aa h
theorem Qvu (fu:Nat) {w0:World} (Ad:List Int) {v2:Value} {F3:List Nat} (Ae:rd w0 F3 [v2] Ad) {r:(List Int)}
    (h:Qjq fu Ad=some r) :
    Calls Tryz.prog 185 #[v2] w0 λe w=>∃ (v0:Value) (G0:List Nat),e=.returned (v0)∧Ext [] w0 w∧ow w G0 [v0] r∧(∀ b∈G0,w0.heap.size≤b):=by
 refine eg (vs:=[_]) func185 z ntmps185 z λk m=>?_;unfold Qjq at h;refine oE h λx5 Aj h=>uc 8 k z λk=>sC k call248 z (Qho fu _ (m.r Ae) Aj) λe7 w9 hR=>?_;obtain ⟨Ar,Af,rfl,e,Ac,Ah⟩:=hR;refine ⟨_,z,λa k=>?_⟩;have m:=m.nw e Ah Ac;refine oE h λAw Ai h=>ul 6 k z λk=>sC k call87 z (Qh8 fu _ (m.v Ac 0 z) Ai) λAs Aq hR=>?_;obtain ⟨Av,rfl,e,Am,Ab⟩:=hR;refine ⟨_,z,λa k=>?_⟩;have m:=m.mut 0 z e _ (λb hb=>⟨Am b hb,Enc.rd_lt (Enc.ow_rd Ab) b hb⟩) (Enc.ow_nd Ab);refine oE h λAo Ag h=>ul 5 k z λk=>sC k call249 z (Qsb fu _ (m.v Ab 0 z) Ag) λAt Au hR=>?_;obtain ⟨Ap,Ak,rfl,e,Aa,Al⟩:=hR;refine ⟨_,z,λa k=>?_⟩;have m:=m.mut 0 z e _ (λb hb=>⟨Al b hb,Enc.rd_lt (Enc.ow_rd Aa) b hb⟩) (Enc.ow_nd Aa);refine ul 4 k z λk=>?_;cases h;exact Qbq k z (RV.tmp k z) ⟨_,Ak,z,m.ext,(m.v Aa 0 z),(m.fresh 0 z)⟩
theorem Qyb (fu:Nat) {w0:World} (r1:Request) {Aj:List Value} {F3:List Nat} (Bf:rd w0 F3 Aj r1) {r:(List Int)}
    (h:Qoq fu r1=some r) :
    Calls Tryz.prog 112 #[.agg Aj.toArray] w0 λe w=>∃ (v0:Value) (G0:List Nat),e=.returned (v0)∧Ext [] w0 w∧ow w G0 [v0] r∧(∀ b∈G0,w0.heap.size≤b):=by
 refine eg (vs:=[_]) func112 z ntmps112 z λk m=>?_;obtain ⟨v5,F6,v7,F8,v9,Bo,rfl,rfl,Aq,Ai,Ab⟩:=Bf;unfold Qoq at h;refine uc 2 k z λk=>Qbo (cs:=(cR r1 v5 v7 v9)) m k z z z z z z λCb Ca a k m e Al=>oE h λBp Bj h=>gl 7 [bA m 0 Al z] k z λk=>cC k m call45 z (Qjp fu _ (Qac (m.r Aq) (m.r Ai) (m.r Ab)) Bj) λBs e a k m=>ul 3 k z λk=>cJ h k z (λh=>?_) λh=>?_
 · refine uc 7 k z λk=>?_;cases h;exact Qbq k z (RV.tmp k z) ⟨_,[],z,m.ext,(Qce _),(by simp)⟩
 refine uc 4 k z λk=>sB (cs:=[]) (ps:=[]) Qbm m k z (by exact fN) λAp Av Bw a k m e Bc=>?_;have Bd:=Qal Bc ([]:List Int) z z z;refine gl 13 [bF m 1 Al z,lF (α:=Item) Ab] k z λk=>lG (λn a w=>∃ Af Ag Ad Ae Ac,K 25 [(3,Ag),(11,v9),(12,I (r1.fV.length:Int)),(13,I Ac)] a∧St [] w0 w [(Ad,Ae)]∧ow Ae Ad [Ag] Af∧Qge fu r1 n Af Ac=some r) ?_ fu ?_
 · rintro Bl a Bu ⟨Af,Ag,Ad,Ae,Ac,k,m,Ak,h⟩;rw [Qge.eq_2] at h;unfold Qk5 at h;refine uc 6 k z λk=>cJ h k z (λh=>?_) λh=>?_
   · refine oE h λAa Am h=>gc 8 [iF Ab Am,eA (m.r Ab) Am] k z λk=>Qai (cs:=[I 0,I 0,I 0,I 0,I 0,I 0,I 0]) m k zeroValue51 z z z z z λBq By a k m e Aw=>sT (cs':=[I Aa.f0,I Aa.fW,I Aa.fH,I Aa.fD,I Aa.fQ,I Aa.fL,I Aa.fM]) sizeOf51 m 0 Aw 0 k z z λBn a k e m Bb=>gl 6 [bF m 0 Bb z] k z λk=>sB (cs:=[I Aa.fL]) (ps:=[(0,.tmp 19)]) Qbm m k z (by exact fC z fN) λBv Bk Bt a k m e At=>?_;have Au:=Qal At ([Aa.fL]:List Int) z z z;refine oE h λBa Ar h=>Qei Ar Qbm z m 2 Ak (News.rd (m.q Au 0 z)) z z k z z z z z z z λAs Ax Ay a k e m Be=>ul 9 k z λk=>?_;exact ⟨_,_,_,_,_,k.p z,m.sl [2] z,Be,h⟩
   refine oE h λBr Bg h=>uc 8 k z λk=>sC k call185 z (Qvu fu _ (m.q Ak 0 z) Bg) λBm Bz hR=>?_;obtain ⟨Bx,Ao,rfl,e,Ah,Az⟩:=hR;refine ⟨_,z,λa k=>?_⟩;have m:=m.nw e Az Ah;refine ul 4 k z λk=>?_;cases h;exact Qbq k z (RV.tmp k z) ⟨_,Ao,z,m.ext,(m.v Ah 0 z),(m.fresh 0 z)⟩
 exact ⟨_,_,_,_,_,k.p z,m.sl [0] z,Bd,h⟩
theorem Q06 (fu:Nat) {w0:World} (Ac:List Pair) (a5:Int) (b6:Int) {v2:Value} {F3:List Nat} (Ab:rd w0 F3 [v2] Ac) {r:Bool}
    (h:Qqf fu Ac a5 b6=some r) :
    Calls Tryz.prog 189 #[v2,I a5,I b6] w0 λe w=>e=.returned (.bool (r))∧Ext [] w0 w:=by
 refine eg (vs:=[_,_,_]) func189 z ntmps189 z λk m=>?_;unfold Qqf at h;refine oE h λx7 Ae h=>uc 10 k z λk=>cC k m call154 z (Qp1 fu _ _ _ (m.r Ab) Ae) λAg e a k m=>pN 1 k z λa k=>bS h k 11 z (λ_ h k=>?_) λ_ h k=>?_
 · refine pN 3 k z λa k=>oE h λAf Ad h=>cC k m call154 z (Qp1 fu _ _ _ (m.r Ab) Ad) λAh e a k m=>ul 5 k z λk=>fS h k m z z
 refine ul 9 k z λk=>fS h k m z z
theorem Qu6 (fu:Nat) {w0:World} (x1:Int) (x2:List Pair) (x8:Int) {v5:Value} {F6:List Nat} {b3:Nat} (Aa:bx w0 b3 [v5] 33) (Ac:rd w0 F6 [v5] x2) {b9:Nat} (Ab:bx w0 b9 [I x8] 3) {r:Bool}
    (h:Qjf fu x1 x2 x8=some r) :
    Calls Tryz.prog 188 #[I x1,pt b3,pt b9] w0 λe w=>e=.returned (.bool (r))∧Ext [] w0 w:=by
 refine eg (vs:=[_,_,_]) func188 z ntmps188 z λk m=>?_;unfold Qjf at h;refine oE h λAf Ad h=>gc 10 [pF (r:=[]) (Aa.at (m.a00 Aa.lt1) 0 1 z z z),pF (r:=[]) (Ab.at (m.a00 Ab.lt1) 0 1 z z z)] k z λk=>cC k m call189 z (Q06 fu _ _ _ (m.r Ac) Ad) λAe e a k m=>ul 5 k z λk=>fS h k m z z
theorem Qoa (fu:Nat) {w0:World} (Ab:List Int) (f5:Int→Option Bool) {v2:Value} {F3:List Nat} (Ac:rd w0 F3 [v2] Ab) {v6:Value} (Al:Qt7 Tryz.prog w0 v6 f5) {r:Int}
    (h:Qc4 fu Ab f5=some r) :
    Calls Tryz.prog 237 #[v2,v6] w0 λe w=>e=.returned (I r)∧Ext [] w0 w:=by
 refine eg (vs:=[_,_]) func237 z ntmps237 z λk m=>?_;obtain ⟨Aj,Ag,rfl,Af,Ai⟩:=Al;unfold Qc4 at h;refine gc 14 [lF (α:=Int) Ac] k z λk=>lG (λn a w=>∃ Aa,K 19 [(0,v2),(1,(.func (.func Aj) #[] Ag.toArray)),(7,I (Ab.length:Int)),(8,I Aa)] a∧St [] w0 w []∧Qb1 fu Ab f5 n Aa=some r) ?_ fu ?_
 · rintro Am a As ⟨Aa,k,m,h⟩;rw [Qb1.eq_2] at h;unfold Qd2 at h;refine uc 6 k z λk=>cJ h k z (λh=>?_) λh=>?_
   · refine o2 h λAp Ad Aq Ak h=>gc 17 [iF Ac Ad,eF (m.r Ac) Ad 0] k z λk=>Qob k Af z z z z z z (Ai _ _ _ _ m.ext z Ak) λAo Ar hR=>?_;obtain ⟨rfl,e⟩:=hR;refine ⟨_,z,λa k=>?_⟩;have m:=m.step e;refine ul 2 k z λk=>cJ h k z (λh=>?_) λh=>?_
     · refine uc 12 k z λk=>fS h k m z z
     refine uc 8 k z λk=>?_;exact ⟨_,k.p z,m.sl [] z,h⟩
   refine uc 11 k z λk=>fS h k m z z
 exact ⟨_,k.p z,m.sl [] z,h⟩
theorem Qrg (fu:Nat) {w0:World} (Aa:List Int) (f5:Int→Option Bool) {v2:Value} {F3:List Nat} (Ab:rd w0 F3 [v2] Aa) {v6:Value} (Ah:Qt7 Tryz.prog w0 v6 f5) {r:Bool}
    (h:Qc5 fu Aa f5=some r) :
    Calls Tryz.prog 169 #[v2,v6] w0 λe w=>e=.returned (.bool (r))∧Ext [] w0 w:=by
 refine eg (vs:=[_,_]) func169 z ntmps169 z λk m=>?_;obtain ⟨Ak,Ai,rfl,Ad,Ag⟩:=Ah;unfold Qc5 at h;refine oE h λAl Ae h=>uc 9 k z λk=>cC k m call237 z (Qoa fu _ _ (m.r Ab) ⟨_,_,z,Ad,λw Ac Af r e=>Ag w Ac Af r (m.ext.trans e (by simp))⟩ Ae) λAj e a k m=>ul 5 k z λk=>fS h k m z z
theorem Qx4 (fu:Nat) {w0:World} (l1:List Int) (x5:List Pair) (Ab:Int) {v2:Value} {F3:List Nat} (Ac:rd w0 F3 [v2] l1) {v8:Value} {F9:List Nat} {b6:Nat} (Af:bx w0 b6 [v8] 33) (Ad:rd w0 F9 [v8] x5) {Aa:Nat} (Ae:bx w0 Aa [I Ab] 3) {r:Bool}
    (h:Qm9 fu l1 x5 Ab=some r) :
    Calls Tryz.prog 187 #[v2,pt b6,pt Aa] w0 λe w=>e=.returned (.bool (r))∧Ext [] w0 w:=by
 refine eg (vs:=[_,_,_]) func187 z ntmps187 z λk m=>?_;unfold Qm9 at h;refine oE h λAj Ah h=>uc 9 k z λk=>cC k m call169 z (Qrg fu _ _ (m.r Ac) ⟨188,[pt b6,pt Aa],z,call188,λw Ak Al r e Ag hx=>by subst Ag; have m:=m.step e; exact Qu6 fu _ _ _ (Af.agr (m.a00 Af.lt1) (by simp)) (m.r Ad) (Ae.agr (m.a00 Ae.lt1) (by simp)) hx⟩ Ah) λAi e a k m=>pN 2 k rfl λa k=>ul 3 k z λk=>fS h k m rfl rfl
theorem Qmx (fu:Nat) {w0:World} (Ab:List (List Int)) (f5:(List Int)→Option Bool) {v2:Value} {F3:List Nat} (Ac:rd w0 F3 [v2] Ab) {v6:Value} (Ao:Qt7 Tryz.prog w0 v6 f5) {r:Int}
    (h:Qcs fu Ab f5=some r) :
    Calls Tryz.prog 186 #[v2,v6] w0 λe w=>e=.returned (I r)∧Ext [] w0 w:=by
 refine eg (vs:=[_,_]) func186 z ntmps186 z λk m=>?_;obtain ⟨Al,Ag,rfl,Af,Ai⟩:=Ao;unfold Qcs at h;refine gc 14 [lF (α:=List Int) Ac] k z λk=>lG (λn a w=>∃ Aa,K 19 [(0,v2),(1,(.func (.func Al) #[] Ag.toArray)),(7,I (Ab.length:Int)),(8,I Aa)] a∧St [] w0 w []∧Qbn fu Ab f5 n Aa=some r) ?_ fu ?_
 · rintro Ay a Aw ⟨Aa,k,m,h⟩;rw [Qbn.eq_2] at h;unfold Qdt at h;refine uc 6 k z λk=>cJ h k z (λh=>?_) λh=>?_
   · refine oE h λAt Ae h=>gc 16 [iF Ac Ae] k z λk=>?_;obtain ⟨Av,Am,As,Ad,Aj,Ah⟩:=Qa3 Ac (Qaf Ae).2.2;obtain ⟨Au,rfl⟩:∃ v,Am=[v]:=by obtain ⟨_,_,hq,_⟩:=Ad; exact ⟨_,hq⟩
     refine oE h λAz Ap h=>gl 1 [pF (Aj.agr (m.a00 (Enc.rd_lt Ac)) Ah)] k z λk=>Qob k Af z z z z z z (Ai _ _ _ _ m.ext ⟨_,(m.r Ad)⟩ Ap) λAr Ax hR=>?_;obtain ⟨rfl,e⟩:=hR;refine ⟨_,z,λa k=>?_⟩;have m:=m.step e;refine ul 2 k z λk=>cJ h k z (λh=>?_) λh=>?_
     · refine uc 12 k z λk=>fS h k m z z
     refine uc 8 k z λk=>?_;exact ⟨_,k.p z,m.sl [] z,h⟩
   refine uc 11 k z λk=>fS h k m z z
 exact ⟨_,k.p z,m.sl [] z,h⟩
theorem Qz1 (fu:Nat) {w0:World} (Al:List Pair) (Az:List Int) {v2:Value} {F3:List Nat} (Ay:rd w0 F3 [v2] Al) {v6:Value} {F7:List Nat} (Bi:rd w0 F7 [v6] Az) {r:(List (List Int))}
    (h:Qpw fu Al Az=some r) :
    Calls Tryz.prog 111 #[v2,v6] w0 λe w=>∃ (v0:Value) (G0:List Nat),e=.returned (v0)∧Ext [] w0 w∧ow w G0 [v0] r∧(∀ b∈G0,w0.heap.size≤b):=by
 refine eg (vs:=[_,_]) func111 z ntmps111 z λk m=>?_;unfold Qpw at h;refine uc 2 k z λk=>Qbo (cs:=[v2]) m k z z z z z (Qno Ay) λb9 Ap a k m e Ce=>ul 5 k z λk=>sB (cs:=[]) (ps:=[]) Qwj m k z (by exact fN) λBl Dw Fv a k m e Cd=>?_;have Ca:=Qrh (α:=List Int) Cd;refine oE h λAs Di h=>ul 7 k z λk=>sC k call185 z (Qvu fu _ (m.r Bi) Di) λGc Aq hR=>?_;obtain ⟨Bj,Ai,rfl,e,Ah,Cg⟩:=hR;refine ⟨_,z,λa k=>?_⟩;have m:=m.nw e Cg Ah;refine gl 5 [lF (α:=Int) (Enc.ow_rd Ah)] k z λk=>lG (λn a w=>∃ Ae Ag Ab Aj Af,K 42 [(2,pt b9),(5,Ag),(11,Bj),(12,I (As.length:Int)),(13,I Af)] a∧St [] w0 w [([b9],Ap),(Ai,Aq),(Ab,Aj)]∧ow Aj Ab [Ag] Ae∧Qen fu Al As n Ae Af=some r) ?_ fu ?_
 · rintro Cz a Fl ⟨Ae,Ag,Ab,Aj,Af,k,m,Aa,h⟩;rw [Qen.eq_2] at h;unfold Qml at h;refine uc 6 k z λk=>cJ h k z (λh=>?_) λh=>?_
   · refine uc 2 k z λk=>cg (λa w=>∃ At Ar Am Ao,K 42 [(2,pt b9),(5,Ar),(11,Bj),(12,I (As.length:Int)),(13,I Af)] a∧St [] w0 w [([b9],Ap),(Ai,Aq),(Am,Ao)]∧ow Ao Am [Ar] At∧Qhs fu (Qen fu Al As Cz) Af At=some r) ?_ ?_
     · rintro a Gi ⟨At,Ar,Am,Ao,k,m,Ea,h⟩;unfold Qhs at h;refine uc 5 k z λk=>?_;exact ⟨_,_,_,_,_,k.p z,m.sl [0,1,2] z,Ea,h⟩
     refine oE h λAd Bh h=>gc 5 [iF (Enc.ow_rd Ah) Bh,eF (m.q Ah 1 z) Bh 0] k z λk=>Qai (cs:=[I 0]) m k zeroValue3 z z z z z λAv Ez a k m e Do=>sT (cs':=[I Ad]) sizeOf3 m 0 Do 0 k z z λBk a k e m Ak=>oE h λFa Dz h=>gl 6 [bF m 0 Ak z] k z λk=>cC k m call57 z (Qa0 fu _ _ _  Dz) λFc e a k m=>ul 3 k z λk=>cJ h k z (λh=>?_) λh=>?_
     · refine uc 4 k z λk=>?_;exact ⟨_,_,_,_,k.p z,m.sl [1,2,3] z,Aa,h⟩
     refine oE h λBf Bu h=>uc 6 k z λk=>cC k m call186 z (Qmx fu _ _ (m.q Aa 3 z) ⟨187,[pt b9,pt Av],z,call187,λw Fk Fp r e Ax hx=>by obtain ⟨_,Ax⟩:=Ax; have m:=m.step e; exact Qx4 fu _ _ _ Ax (m.y Ce 1 z) (m.r Ay) (m.y Ak 0 z) hx⟩ Bu) λGg e a k m=>ul 9 k z λk=>cJ h k z (λh=>?_) λh=>?_
     · refine gc 3 [bF m 0 Ak z] k z λk=>sB (cs:=[I Ad]) (ps:=[(0,.tmp 26)]) Qbm m k z (by exact fC z fN) λBc Et Ev a k m e Ch=>?_;have Bg:=Qal Ch ([Ad]:List Int) z z z;refine sB (cs:=[(.slice (some ⟨Bc,0,none⟩) 1 1)]) (ps:=[(0,.tmp 27)]) Qwj m k z (by exact (List.forall_mem_cons.2 ⟨congrArg Array.size (Qno (Enc.ow_rd Bg)),fN⟩)) λEu Gl Fm a k m e Co=>oE h λDn Dh h=>?_;have Bs:=Enc.ow_agr Bg (m.a 1 z);have Cs:=News.box Co (m.a 0 z) (by simp) (m:=1);have Cq:=m.a 5 z;have m:=m.sl [5,1,0,2,3,4] z;have m:=m.join2;refine Qih (F:=Ab) (G:=[Bc]) Dh Qwj z m Aa Cq Cs Bs (Agr.refl _ _) k z z z z z z λDa Dj Cm a k e m Ef=>ul 4 k z λk=>?_;exact ⟨_,_,_,_,k.p z,m.sl [3,4,0] z,Ef,h⟩
     refine Qij (Ab) Qhu m z λCy hMd=>?_;have m:=hMd;have s:=Ext.refl ((Ab):List Nat) Cy;refine dM [0,1,2,3] 4 z k z s λa k=>oE h λEo Ac h=>dT k 4 z z s (λw s=>Qes (Enc.ow_rd Aa) Ac k Q5v z z z) λa k=>?_;obtain ⟨Gd,Bo,Fz,Dc,Fd,Em⟩:=Qa3 (Enc.ow_rd Aa) (Qaf Ac).2.2;obtain ⟨Eh,rfl⟩:∃ v,Bo=[v]:=by obtain ⟨_,_,hq,_⟩:=Dc; exact ⟨_,hq⟩
     refine dT k 6 z z s (λw s=>Qcv t13 (r:=[]) (Ak.at (hMd.az 0 3 z z z s) 0 1 z z z) k z z) λa k=>?_;obtain ⟨Ga,Cw,Gj,Bp,Gk,En⟩:=Qa3 (Enc.ow_rd Aa) (Qaf Ac).2.2;obtain ⟨Fb,rfl⟩:∃ v,Cw=[v]:=by obtain ⟨_,_,hq,_⟩:=Bp; exact ⟨_,hq⟩
     refine dG2 5 7 (by kernel_rfl) z z ?_ ?_ 
     · obtain ⟨Fj,Ct,Fq,By,Bd,Cl⟩:=Qa3 (Enc.ow_rd Aa) (Qaf Ac).2.2;obtain ⟨Fh,rfl⟩:∃ v,Ct=[v]:=by obtain ⟨_,_,hq,_⟩:=By; exact ⟨_,hq⟩
       refine gl 1 [pF (Bd.agr (m.a 3 z) Cl)] k z λk=>wpList_nil ⟨s,?_⟩;refine dG 7 z (Qcw (cs:=[I Ad]) (ps:=[(0,.tmp 36)]) Qbm m k z z z z z z z (by decide) z (by exact fC z fN) λDg Ck Gb a k m e Du Cp=>?_);have Ei:=lo1 (Nat.le_trans s.size Cp);have Eg:=Qal Du ([Ad]:List Int) z z z;refine ns s e λs=>dG 8 z ?_;obtain ⟨Ff,Fn,m,Ds,Dt,Cj,Be⟩:=m.opnS 4 z Aa Ac Bd z (M':=[([Dg],Ck),([Av],Bk),([b9],Ap),(Ai,Aq)]) z;refine oE h λBw Cr h=>Qas Cr Qbm z m 1 Dt (News.rd (m.q Eg 2 z)) z z k z z z z z z z λBt Bn Fi a k e m Au Dy=>?_;have Ej:∀ y∈Bn,y∈(Ab)∨_≤y:=λy hy=>(Dy y hy).elim (λhy=>(λy hy=>(λy hy=>Or.inl hy) y (Be y hy)) y hy) (λh=>Or.inr (Nat.le_trans s.size h));have s:=s.trans e (λy hy=>(λy hy=>Or.inl hy) y (Be y hy));refine wpList_nil ⟨s,?_⟩;refine oE h λFy Fg h=>dT k 9 z z s (λw s=>Qes (Enc.ow_rd Aa) Ac k Q5v z z z) λa k=>dG 10 z (Qss (α:=List Int) (sz:=1) (cs':=[Bt]) sizeOf71 m 0 Ds 0 k (Qno (Enc.ow_rd Au)) (Qfe (Enc.ow_rd Au)) z z z z z z z z z z λBq a k e m Ee=>?_);obtain ⟨Cn,m,Bz⟩:=(m.sl [0,1,2,3,4,5] z).cls Ee Au;have s:=s.trans e (λy hy=>(λy hy=>Or.inl hy) y (Cj y hy));refine wpList_nil ⟨s,?_⟩;refine dD ?_;refine (ue 2 k z λk=>?_);exact ⟨_,_,_,_,k.p z,m.sl [3,4,0] z,Bz,h⟩
     refine Qcw (cs:=[I Ad]) (ps:=[(0,.tmp 36)]) Qbm m k z z z z z z z (by decide) z (by exact fC z fN) λDv Ed Fs a k m e Cu Db=>?_;have Es:=lo1 (Nat.le_trans s.size Db);have Cc:=Qal Cu ([Ad]:List Int) z z z;refine ns s e λs=>?_;obtain ⟨El,Cx,Ep,Ec,Ew,Ft⟩:=Qa3 (Enc.ow_rd Aa) (Qaf Ac).2.2;obtain ⟨Er,rfl⟩:∃ v,Cx=[v]:=by obtain ⟨_,_,hq,_⟩:=Ec; exact ⟨_,hq⟩
     refine dG 5 z ?_;obtain ⟨Fw,Bv,Ek,Eb,Bb,Dd⟩:=Qa3 (Enc.ow_rd Aa) (Qaf Ac).2.2;obtain ⟨Gf,rfl⟩:∃ v,Bv=[v]:=by obtain ⟨_,_,hq,_⟩:=Eb; exact ⟨_,hq⟩
     refine gl 1 [pF (Bb.agr (m.a 4 z) Dd)] k z λk=>wpList_nil ⟨s,?_⟩;refine dG 8 z ?_;obtain ⟨Fu,Ey,m,Df,Dp,Dx,Ba⟩:=m.opnS 4 z Aa Ac Bb z (M':=[([Dv],Ed),([Av],Bk),([b9],Ap),(Ai,Aq)]) z;refine oE h λDm Dl h=>Qas Dl Qbm z m 1 Dp (News.rd (m.q Cc 2 z)) z z k z z z z z z z λDr Dk Fe a k e m Aw Br=>?_;have Gh:∀ y∈Dk,y∈(Ab)∨_≤y:=λy hy=>(Br y hy).elim (λhy=>(λy hy=>(λy hy=>Or.inl hy) y (Ba y hy)) y hy) (λh=>Or.inr (Nat.le_trans s.size h));have s:=s.trans e (λy hy=>(λy hy=>Or.inl hy) y (Ba y hy));refine wpList_nil ⟨s,?_⟩;refine oE h λEx Ge h=>dT k 9 z z s (λw s=>Qes (Enc.ow_rd Aa) Ac k Q5v z z z) λa k=>dG 10 z (Qss (α:=List Int) (sz:=1) (cs':=[Dr]) sizeOf71 m 0 Df 0 k (Qno (Enc.ow_rd Aw)) (Qfe (Enc.ow_rd Aw)) z z z z z z z z z z λDe a k e m Bx=>?_);obtain ⟨Cb,m,Cv⟩:=(m.sl [0,1,2,3,4,5] z).cls Bx Aw;have s:=s.trans e (λy hy=>(λy hy=>Or.inl hy) y (Dx y hy));refine wpList_nil ⟨s,?_⟩;refine dD ?_;refine (ue 2 k z λk=>?_);exact ⟨_,_,_,_,k.p z,m.sl [3,4,0] z,Cv,h⟩
   refine uc 12 k z λk=>?_;cases h;exact Qbq k z (RV.tmp k z) ⟨_,Ab,z,m.ext,(m.v Aa 2 z),(m.fresh 2 z)⟩
 exact ⟨_,_,_,_,_,k.p z,m.sl [2,0,1] z,Ca,h⟩
theorem Qrp (fu:Nat) {w0:World} (r1:Request) {Ah:List Value} {F3:List Nat} (Ap:rd w0 F3 Ah r1) {r:(List (List Int))}
    (h:Qhl fu r1=some r) :
    Calls Tryz.prog 47 #[.agg Ah.toArray] w0 λe w=>∃ (v0:Value) (G0:List Nat),e=.returned (v0)∧Ext [] w0 w∧ow w G0 [v0] r∧(∀ b∈G0,w0.heap.size≤b):=by
 refine eg (vs:=[_]) func47 z ntmps47 z λk m=>?_;obtain ⟨v5,F6,v7,F8,v9,Aw,rfl,rfl,Aa,Ab,Ac⟩:=Ap;unfold Qhl at h;refine uc 2 k z λk=>Qbo (cs:=(cR r1 v5 v7 v9)) m k z z z z z z λBf Be a k m e Af=>oE h λAx Am h=>gl 7 [bA m 0 Af z] k z λk=>cC k m call45 z (Qjp fu _ (Qac (m.r Aa) (m.r Ab) (m.r Ac)) Am) λBa e a k m=>ul 3 k z λk=>cJ h k z (λh=>?_) λh=>?_
 · refine uc 7 k z λk=>?_;cases h;exact Qbq k z (RV.tmp k z) ⟨_,[],z,m.ext,(Qce _),(by simp)⟩
 refine uc 3 k z λk=>Qij [] Qhu m z λAo hMd=>?_;have m:=hMd;have s:=Ext.refl ([]:List Nat) Ao;refine dr [0,1,2] 3 [bF hMd 0 Af z,bA hMd 0 Af z] k z s λk=>dG 3 z (oE h λAv Al h=>?_);refine sC k call112 z (Qyb fu _ (Qac (m.r Aa) (m.r Ab) (m.r Ac)) Al) λBc Az hR=>?_;obtain ⟨Bd,Ai,rfl,e,Ae,Ak⟩:=hR;refine ⟨_,z,λa k=>?_⟩;have m:=m.nw e Ak Ae;have As:=λ(y:Nat) (hy:y∈Ai)=>Nat.le_trans s.size (Ak y hy);refine ns s e λs=>dG 4 z (oE h λBg Aq h=>sC k call111 z (Qz1 fu _ _ (m.r Aa) (m.q Ae 0 z) Aq) λBb Au hR=>?_);obtain ⟨Ay,Ag,rfl,e,Ad,Aj⟩:=hR;refine ⟨_,z,λa k=>?_⟩;have m:=m.nw e Aj Ad;have At:=λ(y:Nat) (hy:y∈Ag)=>Nat.le_trans s.size (Aj y hy);refine ns s e λs=>dM [5] 1 z k z s λa k=>dD ((Qad ?_));refine wp_ret ?_;cases h;exact Qbq k z (RV.tmp k z) ⟨_,Ag,z,m.ext,(m.v Ad 0 z),(m.fresh 0 z)⟩
theorem Q2c (fu:Nat) {w0:World} (x1:Int) (y2:Int)  {r:Int×Int}
    (h:Qs6 fu x1 y2=some r) :
    Calls Tryz.prog 274 #[.int .u64 (x1),.int .u64 (y2)] w0 λe w=>e=.returned (.tuple #[.int .u64 (r.1),.int .u64 (r.2)])∧Ext [] w0 w:=by
 refine eg (vs:=[_,_]) func274 z ntmps274 z λk m=>?_;unfold Qs6 at h;refine uc 16 k z λk=>sv k z (Q24 (y:=32) k z z z) λa k=>ul 13 k z λk=>sv k z (Q24 (y:=32) k z z z) λa k=>ul 17 k z λk=>sv k z (Q24 (y:=32) k z z z) λa k=>ul 14 k z λk=>sv k z (Q24 (y:=32) k z z z) λa k=>ul 21 k z λk=>sv k z (Q24 (y:=32) k z z z) λa k=>ul 13 k z λk=>?_;cases h;exact Qn3 k z (RV.tmp k z) (RV.tmp k z) ⟨z,m.ext⟩
theorem Q5j (fu:Nat) {w0:World} (x1:Int) (y2:Int)  {r:Int×Int}
    (h:Qti fu x1 y2=some r) :
    Calls Tryz.prog 230 #[.int .u64 (x1),.int .u64 (y2)] w0 λe w=>e=.returned (.tuple #[.int .u64 (r.1),.int .u64 (r.2)])∧Ext [] w0 w:=by
 refine eg (vs:=[_,_]) func230 z ntmps230 z λk m=>?_;unfold Qti at h;refine oE h λx3 Aa h=>uc 14 k z λk=>cC k m call274 z (Q2c fu _ _  Aa) λw6 e a k m=>ul 16 k z λk=>?_;cases h;exact Qn3 k z (RV.tmp k z) (RV.tmp k z) ⟨z,m.ext⟩
theorem Qsm (fu:Nat) {w0:World} (x1:List Int) (Af:Int) {v2:Value} {F3:List Nat} (Ai:rd w0 F3 [v2] x1) {r:(List Int)}
    (h:Qfm fu x1 Af=some r) :
    Calls Tryz.prog 160 #[v2,I Af] w0 λe w=>∃ (v0:Value) (G0:List Nat),e=.returned (v0)∧Ext [] w0 w∧ow w G0 [v0] r∧(∀ b∈G0,w0.heap.size≤b):=by
 refine eg (vs:=[_,_]) func160 z ntmps160 z λk m=>?_;unfold Qfm at h;refine uc 5 k z λk=>cg (λa w=>K 48 [(0,v2),(1,I Af)] a∧St [] w0 w []∧Qf2 fu x1 Af=some r) ?_ ?_
 · rintro a w7 ⟨k,m,h⟩;unfold Qf2 at h;refine gc 4 [lF (α:=Int) Ai] k z λk=>sv k z (Jga k underlying3 underlying169 z z) λa k=>pN 1 k z λa k=>sv k z (Jga k underlying3 underlying169 z z) λa k=>oE h λx8 Be h=>cC k m call230 z (Q5j fu _ _  Be) λBj e a k m=>ul 7 k z λk=>cg (λa w=>K 48 [(0,v2),(6,.int .u64 (x8.2))] a∧St [] w0 w []∧Qbj fu x1 x8=some r) ?_ ?_
   · rintro a Bk ⟨k,m,h⟩;unfold Qbj at h;refine uc 3 k z λk=>sv k z (Jga k underlying169 underlying3 z z) λa k=>oE h λAk Au h=>Jkq Au Qbm z z m k z z z z z z λAr Bi a Bc k m e At=>ul 7 k z λk=>Jks (lo:=0) Qbm m 0 At (Part.self _) (m.r Ai) k z z z z z z z λAm a k e m Aw=>ul 5 k z λk=>lG (λn a w=>∃ Ad Ag Aa Ah Ab,K 48 [(7,Ag),(8,I Ab)] a∧St [] w0 w [(Aa,Ah)]∧ow Ah Aa [Ag] Ad∧Qf3 fu  n Ad Ab=some r) ?_ fu ?_
     · rintro Bh a Bm ⟨Ad,Ag,Aa,Ah,Ab,k,m,Ac,h⟩;rw [Qf3.eq_2] at h;unfold Qmq at h;refine gc 9 [lF (α:=Int) (Enc.ow_rd Ac)] k z λk=>cJ h k z (λh=>?_) λh=>?_
       · refine uc 3 k z λk=>Qij (Aa) Qhu m z λAq hMd=>?_;have m:=hMd;have s:=Ext.refl ((Aa):List Nat) Aq;refine dM [0,1,2,4,5] 5 z k z s λa k=>oE h λBf Az h=>?_;obtain ⟨Bn,Bl,Ay,Bb⟩:=Jdf (Enc.ow_rd Ac) Az Qr8;refine dT k 3 z z s (λw s=>Bb k z z z _) λa k=>oE h λAj Ao h=>?_;obtain ⟨Bg,Ax,As⟩:=Jit (Enc.ow_rd Ac) Ao Qr8;refine dT k 6 z z s (λw s=>As k z z z _) λa k=>dG 7 z (Jks (lo:=Ab) Qbm m 0 Ac Ay (Enc.rd_agr Ax (m.a 0 z)) k z z z z z z z λAl a k e m Bd=>?_);have s:=s.trans e (λy hy=>Or.inl hy);refine wpList_nil ⟨s,?_⟩;refine dM [8,9] 2 z k z s λa k=>dD ((ue 2 k z λk=>?_));exact ⟨_,_,_,_,_,k.p z,m.sl [0] z,Bd,h⟩
       refine uc 12 k z λk=>?_;cases h;exact Qbq k z (RV.tmp k z) ⟨_,Aa,z,m.ext,(m.v Ac 0 z),(m.fresh 0 z)⟩
     exact ⟨_,_,_,_,_,k.p z,m.sl [0] z,Aw,h⟩
   refine uc 5 k z λk=>bS h k 23 z (λ_ h k=>?_) λ_ h k=>?_
   · refine ul 6 k z λk=>?_;exact nS h
   refine ul 5 k z λk=>cJ h k z (λh=>?_) λh=>?_
   · exact nS h
   refine uc 2 k z λk=>?_;exact ⟨k.p z,m.sl [] z,h⟩
 refine uc 6 k z λk=>cJ h k z (λh=>?_) λh=>?_
 · exact nS h
 refine uc 2 k z λk=>?_;exact ⟨k.p z,m.sl [] z,h⟩
theorem Qs9 (fu:Nat) {w0:World} (r1:Request) {Ak:List Value} {F3:List Nat} (Be:rd w0 F3 Ak r1) {r:(List Int)}
    (h:Qm3 fu r1=some r) :
    Calls Tryz.prog 90 #[.agg Ak.toArray] w0 λe w=>∃ (v0:Value) (G0:List Nat),e=.returned (v0)∧Ext [] w0 w∧ow w G0 [v0] r∧(∀ b∈G0,w0.heap.size≤b):=by
 refine eg (vs:=[_]) func90 z ntmps90 z λk m=>?_;obtain ⟨v5,F6,v7,F8,v9,Bn,rfl,rfl,Ap,Aj,Ac⟩:=Be;unfold Qm3 at h;refine uc 2 k z λk=>Qbo (cs:=(cR r1 v5 v7 v9)) m k z z z z z z λCb Ca a k m e Al=>oE h λBo Bj h=>gl 7 [bA m 0 Al z] k z λk=>cC k m call45 z (Qjp fu _ (Qac (m.r Ap) (m.r Aj) (m.r Ac)) Bj) λBu e a k m=>ul 3 k z λk=>cJ h k z (λh=>?_) λh=>?_
 · refine uc 7 k z λk=>?_;cases h;exact Qbq k z (RV.tmp k z) ⟨_,[],z,m.ext,(Qce _),(by simp)⟩
 refine uc 4 k z λk=>sB (cs:=[]) (ps:=[]) Qbm m k z (by exact fN) λAm At Bz a k m e Ay=>?_;have Ba:=Qal Ay ([]:List Int) z z z;refine gl 13 [bF m 1 Al z,lF (α:=Item) Ac] k z λk=>lG (λn a w=>∃ Ag Ae Ad Af Ab,K 27 [(3,Ae),(11,v9),(12,I (r1.fV.length:Int)),(13,I Ab)] a∧St [] w0 w [(Ad,Af)]∧ow Af Ad [Ae] Ag∧Qhk fu r1 n Ag Ab=some r) ?_ fu ?_
 · rintro Bm a Br ⟨Ag,Ae,Ad,Af,Ab,k,m,Ai,h⟩;rw [Qhk.eq_2] at h;unfold Qnm at h;refine uc 6 k z λk=>cJ h k z (λh=>?_) λh=>?_
   · refine oE h λAa Ao h=>gc 9 [iF Ac Ao,eA (m.r Ac) Ao] k z λk=>Qai (cs:=[I 0,I 0,I 0,I 0,I 0,I 0,I 0]) m k zeroValue51 z z z z z λBx Bp a k m e Bc=>pN 1 k z λa k=>sT (cs':=[I Aa.f0,I Aa.fW,I Aa.fH,I Aa.fD,I Aa.fQ,I Aa.fL,I Aa.fM]) sizeOf51 m 0 Bc 0 k z z λBq a k e m Ax=>ul 5 k z λk=>sB (cs:=[I Ab]) (ps:=[(0,.tmp 19)]) Qbm m k z (by exact fC z fN) λBw By Bl a k m e Bb=>?_;have As:=Qal Bb ([Ab]:List Int) z z z;refine oE h λBk Bd h=>gl 2 [bF m 1 Ax z] k z λk=>sC k call160 z (Qsm fu _ _ (m.q As 0 z) Bd) λBt Bv hR=>?_;obtain ⟨Bs,Ar,rfl,e,Ah,Bg⟩:=hR;refine ⟨_,z,λa k=>?_⟩;have m:=m.nw e Bg Ah;refine oE h λAv Az h=>Qei Az Qbm z m 3 Ai (News.rd (m.q Ah 0 z)) z z k z z z z z z z λBh Au Bf a k e m Aq=>ul 9 k z λk=>?_;exact ⟨_,_,_,_,_,k.p z,m.sl [3] z,Aq,h⟩
   refine uc 12 k z λk=>?_;cases h;exact Qbq k z (RV.tmp k z) ⟨_,Ad,z,m.ext,(m.v Ai 0 z),(m.fresh 0 z)⟩
 exact ⟨_,_,_,_,_,k.p z,m.sl [0] z,Ba,h⟩
theorem Qsu (fu:Nat) {w0:World} (Aa:List Int) (v5:Int) {v2:Value} {F3:List Nat} (Ab:rd w0 F3 [v2] Aa) {r:Int}
    (h:Qhm fu Aa v5=some r) :
    Calls Tryz.prog 234 #[v2,I v5] w0 λe w=>e=.returned (I r)∧Ext [] w0 w:=by
 refine eg (vs:=[_,_]) func234 z ntmps234 z λk m=>?_;unfold Qhm at h;refine gc 14 [lF (α:=Int) Ab] k z λk=>lG (λn a w=>∃ Ac,K 19 [(0,v2),(1,I v5),(7,I (Aa.length:Int)),(8,I Ac)] a∧St [] w0 w []∧Qcn fu Aa v5 n Ac=some r) ?_ fu ?_
 · rintro Ah a Ai ⟨Ac,k,m,h⟩;rw [Qcn.eq_2] at h;unfold Qfh at h;refine uc 6 k z λk=>cJ h k z (λh=>?_) λh=>?_
   · refine oE h λAg Ad h=>gc 20 [iF Ab Ad,eF (m.r Ab) Ad 0] k z λk=>cJ h k z (λh=>?_) λh=>?_
     · refine uc 12 k z λk=>fS h k m z z
     refine uc 8 k z λk=>?_;exact ⟨_,k.p z,m.sl [] z,h⟩
   refine uc 11 k z λk=>fS h k m z z
 exact ⟨_,k.p z,m.sl [] z,h⟩
theorem Qr6 (fu:Nat) {w0:World} (Ab:List Int) (v5:Int) {v2:Value} {F3:List Nat} (Aa:rd w0 F3 [v2] Ab) {r:Bool}
    (h:Qej fu Ab v5=some r) :
    Calls Tryz.prog 164 #[v2,I v5] w0 λe w=>e=.returned (.bool (r))∧Ext [] w0 w:=by
 refine eg (vs:=[_,_]) func164 z ntmps164 z λk m=>?_;unfold Qej at h;refine oE h λx6 Ac h=>uc 9 k z λk=>cC k m call234 z (Qsu fu _ _ (m.r Aa) Ac) λw9 e a k m=>ul 5 k z λk=>fS h k m z z
theorem Qza (fu:Nat) {w0:World} (r1:Request) (Ac:Int) {Ay:List Value} {F3:List Nat} (Cg:rd w0 F3 Ay r1) {r:(List Int)}
    (h:Qou fu r1 Ac=some r) :
    Calls Tryz.prog 109 #[.agg Ay.toArray,I Ac] w0 λe w=>∃ (v0:Value) (G0:List Nat),e=.returned (v0)∧Ext [] w0 w∧ow w G0 [v0] r∧(∀ b∈G0,w0.heap.size≤b):=by
 refine eg (vs:=[_,_]) func109 z ntmps109 z λk m=>?_;obtain ⟨v6,F7,v8,F9,As,Cr,rfl,rfl,Ai,Ao,Ab⟩:=Cg;unfold Qou at h;refine uc 2 k z λk=>Qbo (cs:=(cR r1 v6 v8 As)) m k z z z z z z λAl Bd a k m e Au=>oE h λBi Bp h=>gl 6 [bA m 0 Au z] k z λk=>sC k call47 z (Qrp fu _ (Qac (m.r Ai) (m.r Ao) (m.r Ab)) Bp) λCz Be hR=>?_;obtain ⟨Bc,Av,rfl,e,Ad,Ck⟩:=hR;refine ⟨_,z,λa k=>?_⟩;have m:=m.nw e Ck Ad;refine oE h λCu Bk h=>gl 10 [lF (α:=List Int) (Enc.ow_rd Ad)] k z λk=>cC k m call57 z (Qa0 fu _ _ _  Bk) λDb e a k m=>ul 3 k z λk=>cJ h k z (λh=>?_) λh=>?_
 · refine uc 7 k z λk=>?_;cases h;exact Qbq k z (RV.tmp k z) ⟨_,[],z,m.ext,(Qce _),(by simp)⟩
 refine uc 4 k z λk=>sB (cs:=[]) (ps:=[]) Qbm m k z (by exact fN) λAx Bt Cp a k m e Cl=>?_;have Bv:=Qal Cl ([]:List Int) z z z;refine oE h λAr Bx h=>gl 7 [bA m 2 Au z] k z λk=>sC k call90 z (Qs9 fu _ (Qac (m.r Ai) (m.r Ao) (m.r Ab)) Bx) λCy Bb hR=>?_;obtain ⟨Az,Aw,rfl,e,Ae,Cc⟩:=hR;refine ⟨_,z,λa k=>?_⟩;have m:=m.nw e Cc Ae;refine gl 5 [lF (α:=Int) (Enc.ow_rd Ae)] k z λk=>lG (λn a w=>∃ Ah Aj Af Ak Aa,K 43 [(1,I Ac),(2,pt Al),(5,Bc),(6,Aj),(19,Az),(20,I (Ar.length:Int)),(21,I Aa)] a∧St [] w0 w [([Al],Bd),(Av,Be),(Aw,Bb),(Af,Ak)]∧ow Ak Af [Aj] Ah∧Qe3 fu r1 Ac Bi Ar n Ah Aa=some r) ?_ fu ?_
 · rintro Ch a Dd ⟨Ah,Aj,Af,Ak,Aa,k,m,At,h⟩;rw [Qe3.eq_2] at h;unfold Qj5 at h;refine uc 6 k z λk=>cJ h k z (λh=>?_) λh=>?_
   · refine uc 2 k z λk=>cg (λa w=>∃ Ag Am Ap Aq,K 43 [(1,I Ac),(2,pt Al),(5,Bc),(6,Am),(19,Az),(20,I (Ar.length:Int)),(21,I Aa)] a∧St [] w0 w [([Al],Bd),(Av,Be),(Aw,Bb),(Ap,Aq)]∧ow Aq Ap [Am] Ag∧Qja fu (Qe3 fu r1 Ac Bi Ar Ch) Aa Ag=some r) ?_ ?_
     · rintro a Cx ⟨Ag,Am,Ap,Aq,k,m,Ci,h⟩;unfold Qja at h;refine uc 5 k z λk=>?_;exact ⟨_,_,_,_,_,k.p z,m.sl [0,1,2,3] z,Ci,h⟩
     refine oE h λDa Bg h=>gc 11 [iF (Enc.ow_rd Ae) Bg,eF (m.q Ae 2 z) Bg 0] k z λk=>Qij [] Qhu m z λBu hMd=>?_;have m:=hMd;have s:=Ext.refl ([]:List Nat) Bu;refine oE h λCo Bh h=>dr [0,1,6,2] 4 [iF (Enc.ow_rd Ad) Bh] k z s λk=>?_;obtain ⟨Ct,Bm,Bo,Bf,Bs,Bz⟩:=Qa3 (Enc.ow_rd Ad) (Qaf Bh).2.2;obtain ⟨Cw,rfl⟩:∃ v,Bm=[v]:=by obtain ⟨_,_,hq,_⟩:=Bf; exact ⟨_,hq⟩
     refine dT k 3 z z s (λw s=>Qcv Q5g (Bs.agr ((hMd.step s).a 1 z) Bz) k z z) λa k=>oE h λCm Ba h=>dr [4,5,7,8,9] 5 [bF hMd 0 Au z,iF Ab Ba,eF (hMd.r Ab) Ba 5] k z s λk=>dG 10 z (oE h λDc Cb h=>?_);refine cC k m call164 z (Qr6 fu _ _ (Enc.rd_agr Bf ((m.a 1 z).sub Bo)) Cb) λCv e a k m=>ns s e λs=>dD ((Qad ?_));refine cJ h k z (λh=>?_) λh=>?_
     · refine uc 3 k z λk=>sB (cs:=[I Aa]) (ps:=[(0,.tmp 38)]) Qbm m k z (by exact fC z fN) λCq Cs Cn a k m e Ce=>?_;have Cd:=Qal Ce ([Aa]:List Int) z z z;refine oE h λBy Bq h=>Qei Bq Qbm z m 4 At (News.rd (m.q Cd 0 z)) z z k z z z z z z z λBr Bw Cj a k e m Bl=>ul 4 k z λk=>?_;exact ⟨_,_,_,_,k.p z,m.sl [1,2,3,4] z,Bl,h⟩
     refine uc 3 k z λk=>?_;exact ⟨_,_,_,_,k.p z,m.sl [0,1,2,3] z,At,h⟩
   refine uc 12 k z λk=>?_;cases h;exact Qbq k z (RV.tmp k z) ⟨_,Af,z,m.ext,(m.v At 3 z),(m.fresh 3 z)⟩
 exact ⟨_,_,_,_,_,k.p z,m.sl [3,2,0,1] z,Bv,h⟩
theorem Qv1 (fu:Nat) {w0:World} (u1:Int) (x2:Int) {b3:Nat} (Aa:bx w0 b3 [I x2] 3) {r:Bool}
    (h:Qo6 fu u1 x2=some r) :
    Calls Tryz.prog 276 #[I u1,pt b3] w0 λe w=>e=.returned (.bool (r))∧Ext [] w0 w:=by
 refine eg (vs:=[_,_]) func276 z ntmps276 z λk m=>?_;unfold Qo6 at h;refine oE h λx5 Ab h=>gc 10 [pF (r:=[]) (Aa.at (m.a00 Aa.lt1) 0 1 z z z)] k z λk=>cC k m call57 z (Qa0 fu _ _ _  Ab) λw9 e a k m=>ul 5 k z λk=>fS h k m z z
theorem Qru (fu:Nat) {w0:World} (Aj:List Int) (f5:Int→Option Bool) {v2:Value} {F3:List Nat} (Ae:ow w0 F3 [v2] Aj) {v6:Value} (Bd:Jhu F3 Tryz.prog w0 v6 f5) {r:(List Int)}
    (h:Qdx fu Aj f5=some r) :
    Calls Tryz.prog 275 #[v2,v6] w0 λe w=>∃ (v0:Value) (G0:List Nat),e=.returned (v0)∧Ext F3 w0 w∧ow w G0 [v0] r∧(∀ b∈G0,b∈F3∨w0.heap.size≤b):=by
 refine eg (vs:=[_,_]) func275 z ntmps275 z λk _=>?_;have m:=St.start1 w0 (Enc.rd_lt (Enc.ow_rd Ae)) (Enc.ow_nd Ae);obtain ⟨Ao,Al,rfl,Ak,Am⟩:=Bd;unfold Qdx at h;refine oE h λAp Az h=>uc 9 k z λk=>cC k m call237 z (Qoa fu _ _ (m.q Ae 0 z) ⟨_,_,z,Ak,λw Ax Bh r e=>Am w Ax Bh r (m.ext.trans e (by simp))⟩ Az) λBv e a k m=>ul 10 k z λk=>cJ h k z (λh=>?_) λh=>?_
 · refine uc 8 k z λk=>?_;cases h;exact Qbq k z (RV.tmp k z) ⟨_,F3,z,m.ext,(m.v Ae 0 z),(λb hb=>m.lo b (Qhp (i:=0) z hb))⟩
 refine uc 11 k z λk=>lG (λn a w=>∃ Ad Af Ab Ac,K 42 [(0,v2),(1,(.func (.func Ao) #[] Al.toArray)),(5,I Ab),(6,I Ac)] a∧St F3 w0 w [(F3,Af)]∧ow Af F3 [v2] Ad∧Qba fu f5 n Ad Ab Ac=some r) ?_ fu ?_
 · rintro At a Bk ⟨Ad,Af,Ab,Ac,k,m,Aa,h⟩;rw [Qba.eq_2] at h;unfold Qdu at h;refine gc 9 [lF (α:=Int) (Enc.ow_rd Aa)] k z λk=>cJ h k z (λh=>?_) λh=>?_
   · refine uc 2 k z λk=>cg (λa w=>∃ Ai Ah Ag,K 42 [(0,v2),(1,(.func (.func Ao) #[] Al.toArray)),(5,I Ag),(6,I Ac)] a∧St F3 w0 w [(F3,Ah)]∧ow Ah F3 [v2] Ai∧Qc3 fu (Qba fu f5 At) Ac Ai Ag=some r) ?_ ?_
     · rintro a Br ⟨Ai,Ah,Ag,k,m,Be,h⟩;unfold Qc3 at h;refine uc 6 k z λk=>?_;exact ⟨_,_,_,_,k.p z,m.sl [0] z,Be,h⟩
     refine o2 h λAr As Bl Ay h=>gc 14 [iF (Enc.ow_rd Aa) As,eF (m.q Aa 0 z) As 0] k z λk=>Qob k Ak z z z z z z (Am _ _ _ _ m.ext z Ay) λBo Bn hR=>?_;obtain ⟨rfl,e⟩:=hR;refine ⟨_,z,λa k=>?_⟩;have m:=m.step e;refine ul 3 k z λk=>cJ h k z (λh=>?_) λh=>?_
     · refine oE h λBp Aq h=>gc 6 [iF (Enc.ow_rd Aa) Aq] k z λk=>Qv4 (α:=Int) (sz:=1) (y:=Ar) sizeOf3 Aq m 0 Aa 0 k z z z z z z z z z z z z λBa a k e m Bg=>ul 9 k z λk=>?_;exact ⟨_,_,_,k.p z,m.sl [0] z,Bg,h⟩
     refine uc 3 k z λk=>?_;exact ⟨_,_,_,k.p z,m.sl [0] z,Aa,h⟩
   refine oE h λBw Bf h=>uc 9 k z λk=>Q6i (Enc.ow_rd Aa) Bf k Qr8 z z z z z z λBt a k Bm Bi=>Jkk (lo:=Ab) Qbm m 0 Aa Bi k z z z z z λBq a k e m Au=>oE h λBu Bc h=>ul 6 k z λk=>Jeu Au Bc k Qr8 z z z z z z λBs a k Av=>ul 4 k z λk=>?_;cases h;exact Qbq k z (RV.tmp k z) ⟨_,F3,z,m.ext,(m.v Av 0 z),(λb hb=>m.lo b (Qhp (i:=0) z hb))⟩
 exact ⟨_,_,_,_,k.p z,m.sl [0] z,Ae,h⟩
theorem Qr1 (fu:Nat) {w0:World} (r1:Request) (Af:List Int) {Ae:List Value} {F3:List Nat} (Aw:rd w0 F3 Ae r1) {v6:Value} {F7:List Nat} (Al:rd w0 F7 [v6] Af) {r:(List Int)}
    (h:Qie fu r1 Af=some r) :
    Calls Tryz.prog 231 #[.agg Ae.toArray,v6] w0 λe w=>∃ (v0:Value) (G0:List Nat),e=.returned (v0)∧Ext [] w0 w∧ow w G0 [v0] r∧(∀ b∈G0,w0.heap.size≤b):=by
 refine eg (vs:=[_,_]) func231 z ntmps231 z λk m=>?_;obtain ⟨v9,Bf,Ai,Br,Ak,Bd,rfl,rfl,Aj,Ad,Ah⟩:=Aw;unfold Qie at h;refine uc 2 k z λk=>Qbo (cs:=(cR r1 v9 Ai Ak)) m k z z z z z z λBj Bl a k m e As=>oE h λAp Ba h=>gl 6 [bA m 0 As z] k z λk=>sC k call90 z (Qs9 fu _ (Qac (m.r Aj) (m.r Ad) (m.r Ah)) Ba) λBu Bk hR=>?_;obtain ⟨Be,Ar,rfl,e,Ab,Ay⟩:=hR;refine ⟨_,z,λa k=>?_⟩;have m:=m.nw e Ay Ab;refine gl 1 [lF (α:=Int) (Enc.ow_rd Ab)] k z λk=>Qai (cs:=[I 0]) m k zeroValue3 z z z z z λAt Bo a k m e Au=>sT (cs':=[I (Ap.length:Int)]) sizeOf3 m 0 Au 0 k z z λBc a k e m Ax=>oE h λBp Av h=>ul 5 k z λk=>sC k call248 z (Qho fu _ (m.r Al) Av) λBv Bt hR=>?_;obtain ⟨Bg,Ag,rfl,e,Aa,Ao⟩:=hR;refine ⟨_,z,λa k=>?_⟩;have m:=m.nw e Ao Aa;refine pN 1 k z λa k=>oE h λBs Bb h=>sC k call275 z (Qru fu _ _ (m.v Aa 0 z) ⟨276,[pt At],z,call276,λw Bi Bh r e Az hx=>by subst Az; have m:=m.mut 0 rfl e Ag (λb hb=>⟨.inl hb,e.lt1 (m.ltF 0 rfl) b hb⟩) (m.ndF 0 rfl); exact Qv1 fu _ _ (Ax.agr (m.a 1 rfl) (by simp)) hx⟩ Bb) λBm Bn hR=>?_
 obtain ⟨Bq,Aq,rfl,e,Ac,Am⟩:=hR;refine ⟨_,z,λa k=>?_⟩;have m:=m.mut 0 z e _ (λb hb=>⟨Am b hb,Enc.rd_lt (Enc.ow_rd Ac) b hb⟩) (Enc.ow_nd Ac);refine ul 4 k z λk=>?_;cases h;exact Qbq k z (RV.tmp k z) ⟨_,Aq,z,m.ext,(m.v Ac 0 z),(m.fresh 0 z)⟩
theorem Qr3 (fu:Nat) {w0:World} (r1:Request) (Ac:List Int) {At:List Value} {F3:List Nat} (Br:rd w0 F3 At r1) {v6:Value} {F7:List Nat} (Ap:rd w0 F7 [v6] Ac) {r:(List Item)}
    (h:Qig fu r1 Ac=some r) :
    Calls Tryz.prog 162 #[.agg At.toArray,v6] w0 λe w=>∃ (v0:Value) (G0:List Nat),e=.returned (v0)∧Ext [] w0 w∧ow w G0 [v0] r∧(∀ b∈G0,w0.heap.size≤b):=by
 refine eg (vs:=[_,_]) func162 z ntmps162 z λk m=>?_;obtain ⟨v9,Ce,Bc,Co,Bf,Cc,rfl,rfl,Bd,As,Ae⟩:=Br;unfold Qig at h;refine uc 2 k z λk=>Qbo (cs:=(cR r1 v9 Bc Bf)) m k z z z z z z λAk Ba a k m e Ay=>oE h λAx Ca h=>gl 6 [bA m 0 Ay z] k z λk=>sC k call90 z (Qs9 fu _ (Qac (m.r Bd) (m.r As) (m.r Ae)) Ca) λCq Az hR=>?_;obtain ⟨Av,Aq,rfl,e,Af,Bx⟩:=hR;refine ⟨_,z,λa k=>?_⟩;have m:=m.nw e Bx Af;refine ul 5 k z λk=>sB (cs:=[]) (ps:=[]) Q2y m k z (by exact fN) λBe Bu Cl a k m e Cb=>?_;have Bm:=Qal Cb ([]:List Item) z z z;refine gl 12 [lF (α:=Int) Ap] k z λk=>lG (λn a w=>∃ Ah Ag Ab Al Ad,K 36 [(2,pt Ak),(5,Av),(6,Ag),(12,v6),(13,I (Ac.length:Int)),(14,I Ad)] a∧St [] w0 w [([Ak],Ba),(Aq,Az),(Ab,Al)]∧ow Al Ab [Ag] Ah∧Qex fu r1 Ac Ax n Ah Ad=some r) ?_ fu ?_
 · rintro Bz a Cp ⟨Ah,Ag,Ab,Al,Ad,k,m,Ar,h⟩;rw [Qex.eq_2] at h;unfold Qlc at h;refine uc 6 k z λk=>cJ h k z (λh=>?_) λh=>?_
   · refine uc 2 k z λk=>cg (λa w=>∃ Am Ao Aj Ai,K 36 [(2,pt Ak),(5,Av),(6,Ao),(12,v6),(13,I (Ac.length:Int)),(14,I Ad)] a∧St [] w0 w [([Ak],Ba),(Aq,Az),(Aj,Ai)]∧ow Ai Aj [Ao] Am∧Qi6 fu (Qex fu r1 Ac Ax Bz) Ad Am=some r) ?_ ?_
     · rintro a Cr ⟨Am,Ao,Aj,Ai,k,m,Bn,h⟩;unfold Qi6 at h;refine uc 5 k z λk=>?_;exact ⟨_,_,_,_,_,k.p z,m.sl [0,1,2] z,Bn,h⟩
     refine o2 h λCk Au Cg Bs h=>gc 14 [iF Ap Au,eF (m.r Ap) Au 0,lF (α:=Int) (Enc.ow_rd Af)] k z λk=>cC k m call57 z (Qa0 fu _ _ _  Bs) λCs e a k m=>ul 2 k z λk=>cJ h k z (λh=>?_) λh=>?_
     · refine Qij (Ab) Qhu m z λBp hMd=>?_;have m:=hMd;have s:=Ext.refl ((Ab):List Nat) Bp;refine dM [0,3,4] 3 z k z s λa k=>dF k 1 Qsf z s λa k=>dT k 2 z z s (λw s=>Qcv Jd0 (r:=[]) (Ay.at (hMd.az 0 2 z z z s) 9 1 z z z) k z z) λa k=>oE h λCi Bb h=>dT k 5 z z s (λw s=>Qes (Enc.ow_rd Af) Bb k Qr8 z z z) λa k=>dT k 6 z z s (λw s=>Qhe (Enc.ow_rd Af) (hMd.az 1 2 z z z s) Bb 0 t13 k z z z z) λa k=>oE h λAa Aw h=>dT k 7 z z s (λw s=>Qes Ae Aw k Jhp z z z) λa k=>dT k 8 z z s (λw s=>Jed Ae (hMd.az0 2 z z (Enc.rd_lt Ae) s) Aw Jgg k z z) λa k=>dG 9 z (Qcw (cs:=[I Aa.f0,I Aa.fW,I Aa.fH,I Aa.fD,I Aa.fQ,I Aa.fL,I Aa.fM]) (ps:=[(0,.tmp 31)]) Q2y m k z z z z z z z (by decide) z (by exact fC z fN) λCm Cj Cn a k m e Bj Bv=>?_);have Ch:=lo1 (Nat.le_trans s.size Bv);have Bq:=Qal Bj ([Aa]:List Item) z z z;refine ns s e λs=>dG 10 z (oE h λBt Bi h=>Qas Bi Q2y z m 3 Ar (News.rd (m.q Bq 0 z)) z z k z z z z z z z λBo Bg By a k e m Bw Bl=>?_);have Cd:∀ y∈Bg,y∈(Ab)∨_≤y:=λy hy=>(Bl y hy).elim (λhy=>(λy hy=>Or.inl hy) y hy) (λh=>Or.inr (Nat.le_trans s.size h));have s:=s.trans e (λy hy=>Or.inl hy);refine wpList_nil ⟨s,?_⟩;refine dM [11] 1 z k z s λa k=>dD ((ue 2 k z λk=>?_));exact ⟨_,_,_,_,k.p z,m.sl [1,2,3] z,Bw,h⟩
     refine uc 3 k z λk=>?_;exact ⟨_,_,_,_,k.p z,m.sl [0,1,2] z,Ar,h⟩
   refine uc 12 k z λk=>?_;cases h;exact Qbq k z (RV.tmp k z) ⟨_,Ab,z,m.ext,(m.v Ar 2 z),(m.fresh 2 z)⟩
 exact ⟨_,_,_,_,_,k.p z,m.sl [2,1,0] z,Bm,h⟩
theorem Qum (fu:Nat) {w0:World} (Ac:Int) (h2:Int) (d3:Int)  {r:Int}
    (h:Qnp fu Ac h2 d3=some r) :
    Calls Tryz.prog 277 #[I Ac,I h2,I d3] w0 λe w=>e=.returned (I r)∧Ext [] w0 w:=by
 refine eg (vs:=[_,_,_]) func277 z ntmps277 z λk m=>?_;unfold Qnp at h;refine uc 5 k z λk=>cg (λa w=>K 25 [(0,I Ac),(1,I h2),(2,I d3)] a∧St [] w0 w []∧Qpj fu Ac h2 d3=some r) ?_ ?_
 · rintro a Am ⟨k,m,h⟩;unfold Qpj at h;refine uc 11 k z λk=>fS h k m z z
 refine oE h λAd Ah h=>uc 3 k z λk=>cC k m call57 z (Qa0 fu _ _ _  Ah) λAj e a k m=>pN 2 k z λa k=>bS h k 10 z (λ_ h k=>?_) λ_ h k=>?_
 · refine ul 19 k z λk=>fS h k m z z
 refine pN 1 k z λa k=>oE h λAe Ai h=>cC k m call57 z (Qa0 fu _ _ _  Ai) λAo e a k m=>pN 3 k z λa k=>bS h k 15 z (λ_ h k=>?_) λ_ h k=>?_
 · refine ul 14 k z λk=>fS h k m z z
 refine pN 1 k z λa k=>oE h λAl Ag h=>cC k m call57 z (Qa0 fu _ _ _  Ag) λAk e a k m=>ul 4 k z λk=>cJ h k z (λh=>?_) λh=>?_
 · refine uc 7 k z λk=>fS h k m z z
 refine uc 2 k z λk=>?_;exact ⟨k.p z,m.sl [] z,h⟩
theorem Qsy (fu:Nat) {w0:World} (r1:Request) (Aj:List Int) {Ag:List Value} {F3:List Nat} (Ax:rd w0 F3 Ag r1) {v6:Value} {F7:List Nat} (Aq:rd w0 F7 [v6] Aj) {r:Int}
    (h:Qi5 fu r1 Aj=some r) :
    Calls Tryz.prog 246 #[.agg Ag.toArray,v6] w0 λe w=>e=.returned (I r)∧Ext [] w0 w:=by
 refine eg (vs:=[_,_]) func246 z ntmps246 z λk m=>?_;obtain ⟨v9,Bd,Al,Bl,Ap,Bb,rfl,rfl,Ao,Af,Ak⟩:=Ax;unfold Qi5 at h;refine uc 2 k z λk=>Qbo (cs:=(cR r1 v9 Al Ap)) m k z z z z z z λBg Bi a k m e Av=>oE h λAh Ba h=>gl 13 [bA m 0 Av z] k z λk=>sC k call162 z (Qr3 fu _ _ (Qac (m.r Ao) (m.r Af) (m.r Ak)) (m.r Aq) Ba) λBm Aw hR=>?_;obtain ⟨At,Ai,rfl,e,Ab,Az⟩:=hR;refine ⟨_,z,λa k=>?_⟩;have m:=m.nw e Az Ab;refine gl 5 [lF (α:=Item) (Enc.ow_rd Ab)] k z λk=>lG (λn a w=>∃ Ac Ad,K 27 [(5,I Ac),(10,At),(11,I (Ah.length:Int)),(12,I Ad)] a∧St [] w0 w [(Ai,Aw)]∧Qfp fu Ah n Ac Ad=some r) ?_ fu ?_
 · rintro Bk a Bh ⟨Ac,Ad,k,m,h⟩;rw [Qfp.eq_2] at h;unfold Qiy at h;refine uc 6 k z λk=>cJ h k z (λh=>?_) λh=>?_
   · refine oE h λAa Am h=>gc 8 [iF (Enc.ow_rd Ab) Am,eA (m.q Ab 0 z) Am] k z λk=>Qai (cs:=[I 0,I 0,I 0,I 0,I 0,I 0,I 0]) m k zeroValue51 z z z z z λBe Bc a k m e Ar=>sT (cs':=[I Aa.f0,I Aa.fW,I Aa.fH,I Aa.fD,I Aa.fQ,I Aa.fL,I Aa.fM]) sizeOf51 m 0 Ar 0 k z z λBf a k e m Ae=>oE h λAu Ay h=>gl 10 [bF m 0 Ae z,bF m 0 Ae z,bF m 0 Ae z] k z λk=>cC k m call277 z (Qum fu _ _ _  Ay) λBj e a k m=>ul 10 k z λk=>?_;exact ⟨_,_,k.p z,m.sl [1] z,h⟩
   refine uc 12 k z λk=>fS h k m z z
 exact ⟨_,_,k.p z,m.sl [0] z,h⟩
theorem Quh (fu:Nat) {w0:World} (r1:Request) (Ai:List Int) {Af:List Value} {F3:List Nat} (Aw:rd w0 F3 Af r1) {v6:Value} {F7:List Nat} (Ap:rd w0 F7 [v6] Ai) {r:Int}
    (h:Qn5 fu r1 Ai=some r) :
    Calls Tryz.prog 191 #[.agg Af.toArray,v6] w0 λe w=>e=.returned (I r)∧Ext [] w0 w:=by
 refine eg (vs:=[_,_]) func191 z ntmps191 z λk m=>?_;obtain ⟨v9,Bc,Ak,Bh,Ao,Ba,rfl,rfl,Al,Ae,Aj⟩:=Aw;unfold Qn5 at h;refine uc 2 k z λk=>Qbo (cs:=(cR r1 v9 Ak Ao)) m k z z z z z z λBd Be a k m e As=>oE h λAg Ay h=>gl 13 [bA m 0 As z] k z λk=>sC k call162 z (Qr3 fu _ _ (Qac (m.r Al) (m.r Ae) (m.r Aj)) (m.r Ap) Ay) λBj Au hR=>?_;obtain ⟨Ar,Ah,rfl,e,Ab,Ax⟩:=hR;refine ⟨_,z,λa k=>?_⟩;have m:=m.nw e Ax Ab;refine gl 5 [lF (α:=Item) (Enc.ow_rd Ab)] k z λk=>lG (λn a w=>∃ Ac Ad,K 22 [(5,I Ac),(10,Ar),(11,I (Ag.length:Int)),(12,I Ad)] a∧St [] w0 w [(Ah,Au)]∧Qgt fu Ag n Ac Ad=some r) ?_ fu ?_
 · rintro Bg a Bf ⟨Ac,Ad,k,m,h⟩;rw [Qgt.eq_2] at h;unfold Qmj at h;refine uc 6 k z λk=>cJ h k z (λh=>?_) λh=>?_
   · refine oE h λAa Am h=>gc 8 [iF (Enc.ow_rd Ab) Am,eA (m.q Ab 0 z) Am] k z λk=>Qai (cs:=[I 0,I 0,I 0,I 0,I 0,I 0,I 0]) m k zeroValue51 z z z z z λBb Az a k m e Aq=>sT (cs':=[I Aa.f0,I Aa.fW,I Aa.fH,I Aa.fD,I Aa.fQ,I Aa.fL,I Aa.fM]) sizeOf51 m 0 Aq 0 k z z λBi a k e m Av=>gl 16 [bF m 0 Av z] k z λk=>?_;exact ⟨_,_,k.p z,m.sl [1] z,h⟩
   refine uc 12 k z λk=>fS h k m z z
 exact ⟨_,_,k.p z,m.sl [0] z,h⟩
theorem Qso (fu:Nat) {w0:World} (r1:Request) (Al:List Int) (t9:Typ) {Aj:List Value} {F3:List Nat} (As:rd w0 F3 Aj r1) {v6:Value} {F7:List Nat} (Af:rd w0 F7 [v6] Al) {r:Bool}
    (h:Qnz fu r1 Al t9=some r) :
    Calls Tryz.prog 233 #[.agg Aj.toArray,v6,.agg (Flat.e (t9)).toArray] w0 λe w=>e=.returned (.bool (r))∧Ext [] w0 w:=by
 refine eg (vs:=[_,_,_]) func233 z ntmps233 z λk m=>?_;obtain ⟨Ah,Av,Ai,Ay,Ag,Bc,rfl,rfl,Ab,Ac,Ae⟩:=As;unfold Qnz at h;refine uc 2 k z λk=>Qbo (cs:=(cR r1 Ah Ai Ag)) m k z z z z z z λBa Aw a k m e Ak=>Qbo (cs:=[I t9.f0,I t9.fW,I t9.fH,I t9.fD,I t9.fF,I t9.fQ,I t9.fE]) m k z z z z z z λBd Az a k m e Ad=>ul 4 k z λk=>Qij [] Qhu m z λAt hMd=>?_;have m:=hMd;have s:=Ext.refl ([]:List Nat) At;refine dr [1,0,3,4,5,6,7,8] 8 [bA hMd 1 Ak z,bF hMd 0 Ad z,bF hMd 0 Ad z,bF hMd 0 Ad z] k z s λk=>dG 2 z (oE h λAm Ap h=>cC k m call246 z (Qsy fu _ _ (Qac (m.r Ab) (m.r Ac) (m.r Ae)) (m.r Af) Ap) λAx e a k m=>?_);refine ns s e λs=>dG 9 z (oE h λAo Aq h=>cC k m call277 z (Qum fu _ _ _  Aq) λAu e a k m=>?_);refine ns s e λs=>dM [10,11] 2 z k z s λa k=>bS h k 18 z (λ_ h k=>?_) λ_ h k=>?_
 · refine dr [13,12,15,16] 4 [bA hMd 1 Ak z,bF hMd 0 Ad z] k z s λk=>dG 14 z (oE h λBb Ar h=>?_);refine cC k m call191 z (Quh fu _ _ (Qac (m.r Ab) (m.r Ac) (m.r Ae)) (m.r Af) Ar) λBe e a k m=>ns s e λs=>dM [17,18,19] 3 z k z s λa k=>dD ((Qad ?_));refine wp_ret (fS h k m z z)
 refine dM [12,13,14,15,16,17,18,19] 8 z k z s λa k=>dD ((Qad ?_));refine wp_ret (fS h k m z z)
theorem Qxy (fu:Nat) {w0:World} (r1:Request) (Ap:List Int) (u9:Int) {Am:List Value} {F3:List Nat} (Bs:rd w0 F3 Am r1) {v6:Value} {F7:List Nat} (Ai:rd w0 F7 [v6] Ap) {r:Bool}
    (h:Qqu fu r1 Ap u9=some r) :
    Calls Tryz.prog 245 #[.agg Am.toArray,v6,I u9] w0 λe w=>e=.returned (.bool (r))∧Ext [] w0 w:=by
 refine eg (vs:=[_,_,_]) func245 z ntmps245 z λk m=>?_;obtain ⟨Af,Ck,Ah,Cb,Ag,Cg,rfl,rfl,Ac,Ab,Ad⟩:=Bs;unfold Qqu at h;refine uc 2 k z λk=>Qbo (cs:=(cR r1 Af Ah Ag)) m k z z z z z z λCe Cy a k m e Aj=>oE h λAa Bl h=>gl 6 [bA m 0 Aj z] k z λk=>cC k m call75 z (Qrs fu _ (Qac (m.r Ac) (m.r Ab) (m.r Ad)) Bl) λCi e a k m=>pN 3 k z λa k=>Qai (cs:=[I 0,I 0,I 0,I 0,I 0,I 0,I 0]) m k zeroValue53 z z z z z λCa Dg a k m e Bi=>sT (cs':=[I Aa.1.f0,I Aa.1.fW,I Aa.1.fH,I Aa.1.fD,I Aa.1.fF,I Aa.1.fQ,I Aa.1.fE]) sizeOf53 m 0 Bi 0 k z z λCr a k e m Bk=>ul 4 k z λk=>Qij [] Qhu m z λAy hMd=>?_;have m:=hMd;have s:=Ext.refl ([]:List Nat) Ay;refine dr [0] 1 [bA hMd 1 Aj z] k z s λk=>dG 1 z (oE h λBm Bo h=>cC k m call45 z (Qjp fu _ (Qac (m.r Ac) (m.r Ab) (m.r Ad)) Bo) λDf e a k m=>?_);refine ns s e λs=>dM [2] 1 z k z s λa k=>bS h k 16 z (λ_ h k=>?_) λ_ h k=>?_
 · refine dr [4,6,3,9] 4 [bA hMd 1 Aj z,bA hMd 0 Bk z] k z s λk=>dG2 5 7 (by kernel_rfl) z z ?_ ?_
   · refine oE h λDe Bh h=>sC k call248 z (Qho fu _ (m.r Ai) Bh) λCx Ct hR=>?_;obtain ⟨Cc,Au,rfl,e,Ak,Ar⟩:=hR;refine ⟨_,z,λa k=>?_⟩;have m:=m.nw e Ar Ak;have Aq:=λ(y:Nat) (hy:y∈Au)=>Nat.le_trans s.size (Ar y hy);refine ns s e λs=>dG 7 z (Qcw (cs:=[I u9]) (ps:=[(0,.tmp 20)]) Qbm m k z z z z z z z (by decide) z (by exact fC z fN) λDd Bu Cn a k m e Bb Bn=>?_);have Cw:=lo1 (Nat.le_trans s.size Bn);have Bf:=Qal Bb ([u9]:List Int) z z z;refine ns s e λs=>dG 8 z (oE h λCm Av h=>Qas Av Qbm z m 1 Ak (News.rd (m.q Bf 0 z)) z z k z z z z z z z λCq Ba Cs a k e m Bq Bd=>?_);have Dc:∀ y∈Ba,y∈[]∨_≤y:=λy hy=>(Bd y hy).elim (λhy=>(λy hy=>Or.inr (Aq y hy)) y hy) (λh=>Or.inr (Nat.le_trans s.size h));have s:=s.trans e (λy hy=>Or.inr (Aq y hy));refine wpList_nil ⟨s,?_⟩;refine dG 10 z (oE h λCj Aw h=>cC k m call233 z (Qso fu _ _ (Aa.1:Typ) (Qac (m.r Ac) (m.r Ab) (m.r Ad)) (m.q Bq 1 z) Aw) λCl e a k m=>?_);refine ns s e λs=>dM [11,12] 2 z k z s λa k=>dD ((Qad ?_));refine wp_ret (fS h k m z z)
   refine Qcw (cs:=[I u9]) (ps:=[(0,.tmp 20)]) Qbm m k z z z z z z z (by decide) z (by exact fC z fN) λBz Cp By a k m e Br Az=>?_;have Cd:=lo1 (Nat.le_trans s.size Az);have Bp:=Qal Br ([u9]:List Int) z z z;refine ns s e λs=>dG 5 z (oE h λBv Ax h=>sC k call248 z (Qho fu _ (m.r Ai) Ax) λCz Ch hR=>?_);obtain ⟨Da,Ao,rfl,e,Al,As⟩:=hR;refine ⟨_,z,λa k=>?_⟩;have m:=m.nw e As Al;have At:=λ(y:Nat) (hy:y∈Ao)=>Nat.le_trans s.size (As y hy);refine ns s e λs=>dG 8 z (oE h λCo Bt h=>Qas Bt Qbm z m 0 Al (News.rd (m.q Bp 1 z)) z z k z z z z z z z λDb Bj Bw a k e m Be Bc=>?_);have Cu:∀ y∈Bj,y∈[]∨_≤y:=λy hy=>(Bc y hy).elim (λhy=>(λy hy=>Or.inr (At y hy)) y hy) (λh=>Or.inr (Nat.le_trans s.size h));have s:=s.trans e (λy hy=>Or.inr (At y hy));refine wpList_nil ⟨s,?_⟩;refine dG 10 z (oE h λBx Bg h=>cC k m call233 z (Qso fu _ _ (Aa.1:Typ) (Qac (m.r Ac) (m.r Ab) (m.r Ad)) (m.q Be 0 z) Bg) λCv e a k m=>?_);refine ns s e λs=>dM [11,12] 2 z k z s λa k=>dD ((Qad ?_));refine wp_ret (fS h k m z z)
 refine dM [3,4,5,6,7,8,9,10,11,12] 10 z k z s λa k=>dD ((Qad ?_));refine wp_ret (fS h k m z z)
theorem Qyw (fu:Nat) {w0:World} (r1:Request) (Bm:List Int) {Bf:List Value} {F3:List Nat} (Dh:rd w0 F3 Bf r1) {v6:Value} {F7:List Nat} (Bl:rd w0 F7 [v6] Bm) {r:(List (List Int))}
    (h:Qo5 fu r1 Bm=some r) :
    Calls Tryz.prog 183 #[.agg Bf.toArray,v6] w0 λe w=>∃ (v0:Value) (G0:List Nat),e=.returned (v0)∧Ext [] w0 w∧ow w G0 [v0] r∧(∀ b∈G0,w0.heap.size≤b):=by
 refine eg (vs:=[_,_]) func183 z ntmps183 z λk m=>?_;obtain ⟨v9,Do,Au,Dw,Av,Em,rfl,rfl,As,Ao,Ak⟩:=Dh;unfold Qo5 at h;refine uc 2 k z λk=>Qbo (cs:=(cR r1 v9 Au Av)) m k z z z z z z λAf Az a k m e Bc=>ul 5 k z λk=>sB (cs:=[]) (ps:=[]) Qwj m k z (by exact fN) λBe Ce Ej a k m e Cd=>?_;have Cc:=Qrh (α:=List Int) Cd;refine oE h λAl De h=>gl 8 [bA m 1 Bc z] k z λk=>sC k call231 z (Qr1 fu _ _ (Qac (m.r As) (m.r Ao) (m.r Ak)) (m.r Bl) De) λEb Ay hR=>?_;obtain ⟨Bi,Aj,rfl,e,Ag,Bz⟩:=hR;refine ⟨_,z,λa k=>?_⟩;have m:=m.nw e Bz Ag;refine gl 5 [lF (α:=Int) (Enc.ow_rd Ag)] k z λk=>lG (λn a w=>∃ Ac Ar Ae Aw Ab,K 49 [(2,pt Af),(5,Ar),(12,Bi),(13,I (Al.length:Int)),(14,I Ab)] a∧St [] w0 w [([Af],Az),(Aj,Ay),(Ae,Aw)]∧ow Aw Ae [Ar] Ac∧Qd3 fu r1 Al n Ac Ab=some r) ?_ fu ?_
 · rintro Bs a Dr ⟨Ac,Ar,Ae,Aw,Ab,k,m,Aa,h⟩;rw [Qd3.eq_2] at h;unfold Qkb at h;refine uc 6 k z λk=>cJ h k z (λh=>?_) λh=>?_
   · refine uc 2 k z λk=>cg (λa w=>∃ Am Ap Aq At,K 49 [(2,pt Af),(5,Ap),(12,Bi),(13,I (Al.length:Int)),(14,I Ab)] a∧St [] w0 w [([Af],Az),(Aj,Ay),(Aq,At)]∧ow At Aq [Ap] Am∧Qg7 fu (Qd3 fu r1 Al Bs) Ab Am=some r) ?_ ?_
     · rintro a El ⟨Am,Ap,Aq,At,k,m,Ch,h⟩;unfold Qg7 at h;refine uc 5 k z λk=>?_;exact ⟨_,_,_,_,_,k.p z,m.sl [0,1,2] z,Ch,h⟩
     refine oE h λAd Bn h=>gc 17 [iF (Enc.ow_rd Ag) Bn,eF (m.q Ag 1 z) Bn 0,lF (α:=List Int) (Enc.ow_rd Aa)] k z λk=>Qij [] Qhu m z λBq hMd=>?_;have m:=hMd;have s:=Ext.refl ([]:List Nat) Bq;refine dM [0,1,2] 3 z k z s λa k=>Qxx (decide ((w64 ((Ac.length:Int) - 1))≥0)) (λAh=>?_) (λAh=>?_)
     · have h:=Q02 Ah h;refine rB k 23 z Ah λk=>oE h λEe Ai h=>dr [4,5,8,3,6] 5 [bA hMd 0 Bc z,iF (Enc.ow_rd Aa) Ai] k z s λk=>?_;obtain ⟨En,Bu,Dd,Bb,Ba,Bj⟩:=Qa3 (Enc.ow_rd Aa) (Qaf Ai).2.2;obtain ⟨Ds,rfl⟩:∃ v,Bu=[v]:=by obtain ⟨_,_,hq,_⟩:=Bb; exact ⟨_,hq⟩
       refine dT k 7 z z s (λw s=>Qcv Q5g (Ba.agr ((hMd.step s).a 2 z) Bj) k z z) λa k=>dG 9 z (oE h λEd Db h=>cC k m call245 z (Qxy fu _ _ _ (Qac (m.r As) (m.r Ao) (m.r Ak)) (Enc.rd_agr Bb ((m.a 2 z).sub Dd)) Db) λEc e a k m=>?_);refine ns s e λs=>dM [10] 1 z k z s λa k=>dD ((Qad ?_));refine cJ h k z (λh=>?_) λh=>?_
       · refine oE h λEo Ea h=>gc 8 [iF (Enc.ow_rd Aa) Ai,pF (Ba.agr (m.a 2 z) Bj)] k z λk=>sB (cs:=[I Ad]) (ps:=[(0,.tmp 38)]) Qbm m k z (by exact fC z fN) λCn Cp Du a k m e Di=>?_;have Da:=Qal Di ([Ad]:List Int) z z z;obtain ⟨Dy,Ef,m,Dc,Cu⟩:=m.opn 3 z Aa Ai Ba z (M':=[([Cn],Cp),([Af],Az),(Aj,Ay)]) z;refine oE h λCy Cz h=>Qei Cz Qbm z m 1 Cu (News.rd (m.q Da 2 z)) z z k z z z z z z z λBv Ek Dn a k e m Ax=>oE h λDt Dz h=>gl 1 [iF (Enc.ow_rd Aa) Ai] k z λk=>Qss (α:=List Int) (sz:=1) (cs':=[Bv]) sizeOf71 m 0 Dc 0 k (Qno (Enc.ow_rd Ax)) (Qfe (Enc.ow_rd Ax)) z z z z z z z z z z λBr a k e m Bx=>?_;obtain ⟨Cw,m,Dk⟩:=(m.sl [0,1,2,3,4] z).cls Bx Ax;refine ul 3 k z λk=>?_;exact ⟨_,_,_,_,k.p z,m.sl [2,3,0] z,Dk,h⟩
       refine uc 3 k z λk=>sB (cs:=[I Ad]) (ps:=[(0,.tmp 43)]) Qbm m k z (by exact fC z fN) λBd Eh Dm a k m e Cg=>?_;have Bk:=Qal Cg ([Ad]:List Int) z z z;refine sB (cs:=[(.slice (some ⟨Bd,0,none⟩) 1 1)]) (ps:=[(0,.tmp 44)]) Qwj m k z (by exact (List.forall_mem_cons.2 ⟨congrArg Array.size (Qno (Enc.ow_rd Bk)),fN⟩)) λEg Dp Ep a k m e Ck=>oE h λCx Cq h=>?_;have Cj:=Enc.ow_agr Bk (m.a 1 z);have Cl:=News.box Ck (m.a 0 z) (by simp) (m:=1);have Ct:=m.a 4 z;have m:=m.sl [4,1,0,2,3] z;have m:=m.join2;refine Qih (F:=Ae) (G:=[Bd]) Cq Qwj z m Aa Ct Cl Cj (Agr.refl _ _) k z z z z z z λDj Ci Cr a k e m By=>ul 4 k z λk=>?_;exact ⟨_,_,_,_,k.p z,m.sl [2,3,0] z,By,h⟩
     have h:=Q09 Ah h;refine rB k 23 z Ah λk=>dM [3,4,5,6,7,8,9,10] 8 z k z s λa k=>dD ((Qad ?_));refine uc 4 k z λk=>sB (cs:=[I Ad]) (ps:=[(0,.tmp 43)]) Qbm m k z (by exact fC z fN) λBg Dx Er a k m e Bo=>?_;have Bh:=Qal Bo ([Ad]:List Int) z z z;refine sB (cs:=[(.slice (some ⟨Bg,0,none⟩) 1 1)]) (ps:=[(0,.tmp 44)]) Qwj m k z (by exact (List.forall_mem_cons.2 ⟨congrArg Array.size (Qno (Enc.ow_rd Bh)),fN⟩)) λDv Ei Dq a k m e Bt=>oE h λCs Co h=>?_;have Cb:=Enc.ow_agr Bh (m.a 1 z);have Bw:=News.box Bt (m.a 0 z) (by simp) (m:=1);have Cm:=m.a 4 z;have m:=m.sl [4,1,0,2,3] z;have m:=m.join2;refine Qih (F:=Ae) (G:=[Bg]) Co Qwj z m Aa Cm Bw Cb (Agr.refl _ _) k z z z z z z λDg Cv Bp a k e m Dl=>ul 4 k z λk=>?_;exact ⟨_,_,_,_,k.p z,m.sl [2,3,0] z,Dl,h⟩
   refine uc 12 k z λk=>?_;cases h;exact Qbq k z (RV.tmp k z) ⟨_,Ae,z,m.ext,(m.v Aa 2 z),(m.fresh 2 z)⟩
 exact ⟨_,_,_,_,_,k.p z,m.sl [2,0,1] z,Cc,h⟩
end Go.Proofs.YtndfoffokpdjeaaGreatDoor
