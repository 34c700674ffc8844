/- FnPlanned: the walks.. -/
import Derived.Test.YtpcmapfabndggaaGreatDoorPlannedBT
set_option maxRecDepth 20000
set_option linter.unusedSimpArgs false
set_option linter.unusedVariables false
set_option linter.unnecessarySimpa false
namespace Go.Proofs.YtpcmapfabndggaaGreatDoor
open Go Go.RowKit
open Enc (rd ow)
open Arg (argv)
open Ret (retv)
open Go.Proofs.Tryz
theorem Qx8 (fu:Nat) {w0:World} (t1:Typ) (x2:Int) {b3:Nat} (Aa:bx w0 b3 [I x2] 3) {r:Bool}
    (h:Qpm fu t1 x2=some r) :
    Calls Tryz.prog 147 #[.agg (Flat.e (t1)).toArray,pt b3] w0 λe w=>e=.returned (.bool (r))∧Ext [] w0 w:=by
 refine en (vs:=[_,_]) func147 z ntmps147 z λa k m=>?_;unfold Qpm at h;refine wr (Qbg (cs:=[I t1.qQ,I t1.fW,I t1.fH,I t1.fD,I t1.ft,I t1.fQ,I t1.fK]) m k z z z z z z λb5 w7 a k m e Ab=>pN 1 k z λa k=>nn (wr (fl Qtb t13 m 0 Ab k z z λa k=>sv k z (Qan t13 (r:=[]) (Aa.at (m.a00 Aa.lt1) 0 1 z z z) k z z) λa k=>pN 2 k z λa k=>nn (wp_ret (fS h k m z z)))))
theorem Qht (fu:Nat) {w0:World} (Ab:List Typ) (f5:Typ→Option Bool) {v2:Value} {F3:List Nat} (Aa:rd w0 F3 [v2] Ab) {v6:Value} (Ai:Qvf Tryz.prog w0 v6 f5) {r:Int}
    (h:Qbo fu Ab f5=some r) :
    Calls Tryz.prog 146 #[v2,v6] w0 λe w=>e=.returned (I r)∧Ext [] w0 w:=by
 refine en (vs:=[_,_]) func146 z ntmps146 z λa k m=>?_;obtain ⟨Ae,Ak,rfl,Af,Ah⟩:=Ai;unfold Qbo at h;refine wr (pN 1 k z λa k=>nn (wp_seq (wr (pN 1 k z λa k=>sv k z (Qa2 (α:=Typ) Aa k underlying27 z z) λa k=>pN 1 k z λa k=>nn (wp_block (Qap (λn a w=>∃ (Ac:Int),K 19 [(0,v2),(1,(.func (.func Ae) #[] Ak.toArray)),(7,I (Ab.length:Int)),(8,I Ac)] a∧St [] w0 w []∧Qbb fu Ab f5 n Ac=some r) ?_ ?_ fu _ _ ?_))))))
 · rintro a w ⟨_,_,_,h⟩;exact nS h
 · rintro Ar a Ap ⟨Ac,k,m,h⟩;rw [Qbb.eq_2] at h;unfold Qch at h;refine wr (pN 1 k z λa k=>nn (wp_seq (cI h k z (λAj h=>?_) λAj h=>?_)))
   · refine wp_skip (Qaa ?_);refine wp_seq (wp_block (wr (pN 2 k z λa k=>nn (wr (pN 3 k z λa k=>oE h λAm Ad h=>sv k z (Qak Aa Ad k Q4p z z z) λa k=>sv k z (Qis Aa (m.a00 (Enc.rd_lt Aa)) Ad Qub k z z) λa k=>oE h λAo Ag h=>Qtt k Af z z z z z z (Ah _ _ _ _ m.ext z Ag) λAq As hR=>?_)))));obtain ⟨rfl,e⟩:=hR;refine ⟨_,z,λa k=>?_⟩;have m:=m.step e;refine nn (cI h k z (λAl h=>?_) λAl h=>?_)
     · refine wr (pN 2 k z λa k=>nn (wp_ret (Qag (Qad (Qad (Qag (Qad ?_)))))));refine fS h k m z z
     refine wp_skip (Qae (Qaa ?_));refine wp_region_lit (pN 2 k z λa k=>nn ?_);exact ⟨w64 (Ac+1),k.keep [0,1,7,8] z,m.sl [] z,h⟩
   refine wp_exit (Qaf (Qaf (Qaj (Qaa ?_))));refine wr (pN 1 k z λa k=>nn (wp_ret (fS h k m z z)))
 exact ⟨0,k.keep [0,1,7,8] z,m.sl [] z,h⟩
theorem Qr8 (fu:Nat) {w0:World} (r1:Request) (Ac:Int) {Af:List Value} {F3:List Nat} (Ap:rd w0 F3 Af r1) {r:Typ×Bool}
    (h:Qhk fu r1 Ac=some r) :
    Calls Tryz.prog 68 #[.agg Af.toArray,I Ac] w0 λe w=>e=.returned (.tuple #[.agg (Flat.e r.1).toArray,.bool (r.2)])∧Ext [] w0 w:=by
 refine en (vs:=[_,_]) func68 z ntmps68 z λa k m=>?_;obtain ⟨v6,F7,v8,F9,Ao,Bb,rfl,rfl,As,Ab,Av⟩:=Ap;unfold Qhk at h;refine wr (Qbg (cs:=(cR r1 v6 v8 Ao)) m k z z z z z z λAz Ar a k m e Ag=>Qbg (cs:=[I Ac]) m k z z z z z z λAk Ax a k m e Ai=>Qar (cs:=[I 0,I 0,I 0,I 0,I 0,I 0,I 0]) m k zeroValue90 z z z z z λBc Au a k m e Ad=>pN 1 k z λa k=>nn (wr (fl Qey Qvy m 2 Ag k z z λa k=>pN 1 k z λa k=>oE h λAt Aj h=>?_)));refine cC k m call146 z (Qht fu _ _ (m.r Ab) ⟨147,[pt Ak],z,call147,λw Aw Ba r e Ah hx=>by subst Ah; have m:=m.step e; exact Qx8 fu _ _ (Ai.agr (m.a 1 rfl) (by simp)) hx⟩ Aj) λBd e a k m=>pN 1 k rfl λa k=>nn (wp_seq (wr (pN 2 k rfl λa k=>nn (cI h k rfl (λAq h=>?_) λAq h=>?_))))
 · refine wr (sv k z (Qa7 Q7l k (cs:=#[I 0,I 0,I 0,I 0,I 0,I 0,I 0]) (ps:=[]) z z (by kernel_rfl)) λa k=>sT (cs':=[I 0,I 0,I 0,I 0,I 0,I 0,I 0]) sizeOf90 m 0 Ad 0 k z z λAy a k e m Al=>pN 1 k z λa k=>nn (wp_ret (Qad ?_)));cases h;exact Quu k z (RV.cA k z Qub (Al.at (m.a 0 z) 0 7 z z z) z) (RV.tmp k z) ⟨z,m.ext⟩
 refine wp_skip (Qaa ?_);refine wr (fl Qey Qvy m 2 Ag k z z λa k=>pN 1 k z λa k=>oE h λAa Ae h=>sv k z (Qak Ab Ae k Q4p z z z) λa k=>sv k z (Qis Ab (m.a00 (Enc.rd_lt Ab)) Ae Qub k z z) λa k=>sT (cs':=[I Aa.qQ,I Aa.fW,I Aa.fH,I Aa.fD,I Aa.ft,I Aa.fQ,I Aa.fK]) sizeOf90 m 0 Ad 0 k z z λBe a k e m Am=>pN 1 k z λa k=>nn (wp_ret ?_));cases h;exact Quu k z (RV.cA k z Qub (Am.at (m.a 0 z) 0 7 z z z) z) (RV.tmp k z) ⟨z,m.ext⟩
theorem Qtw (fu:Nat) {w0:World} (r1:Request) {Ac:List Value} {F3:List Nat} (Ah:rd w0 F3 Ac r1) {r:Typ×Bool}
    (h:Qij fu r1=some r) :
    Calls Tryz.prog 131 #[.agg Ac.toArray] w0 λe w=>e=.returned (.tuple #[.agg (Flat.e r.1).toArray,.bool (r.2)])∧Ext [] w0 w:=by
 refine en (vs:=[_]) func131 z ntmps131 z λa k m=>?_;obtain ⟨v5,F6,v7,F8,v9,Am,rfl,rfl,Ab,Ad,Af⟩:=Ah;unfold Qij at h;refine wr (Qbg (cs:=(cR r1 v5 v7 v9)) m k z z z z z z λAl Ao a k m e Ae=>Qar (cs:=[I 0,I 0,I 0,I 0,I 0,I 0,I 0]) m k zeroValue90 z z z z z λAp Ar a k m e Aj=>pN 1 k z λa k=>nn (wr (sv k z (rL Qfl m 1 Ae 0 k z) λa k=>fl Q5a t13 m 1 Ae k z z λa k=>oE h λAa Ai h=>?_)));refine cC k m call68 z (Qr8 fu _ _ (Qah (m.r Ab) (m.r Ad) (m.r Af)) Ai) λAk e a k m=>pN 2 k z λa k=>sT (cs':=[I Aa.1.qQ,I Aa.1.fW,I Aa.1.fH,I Aa.1.fD,I Aa.1.ft,I Aa.1.fQ,I Aa.1.fK]) sizeOf90 m 0 Aj 0 k z z λAq a k e m Ag=>pN 1 k z λa k=>nn (wp_ret ?_);cases h;exact Quu k z (RV.cA k z Qub (Ag.at (m.a 0 z) 0 7 z z z) z) (RV.tmp k z) ⟨z,m.ext⟩
theorem Qbn (fu:Nat) {w0:World} (n1:Int) (Ab:Int) (Ac:Int)  {r:Bool}
    (h:Qbk fu n1 Ab Ac=some r) :
    Calls Tryz.prog 42 #[I n1,I Ab,I Ac] w0 λe w=>e=.returned (.bool (r))∧Ext [] w0 w:=by
 refine en (vs:=[_,_,_]) func42 z ntmps42 z λa k m=>?_;unfold Qbk at h;refine wr (pN 1 k z λa k=>nn (wr (pN 4 k z λa k=>Qam (decide (n1≥Ab)) (λAa=>?_) (λAa=>?_))))
 · have h:=Qax Aa h;refine rB k 10 z Aa λk=>pN 5 k z λa k=>nn (wp_ret (fS h k m z z))
 have h:=Qay Aa h;refine rB k 10 z Aa λk=>pN 5 k z λa k=>nn (wp_ret (fS h k m z z))
theorem Qff (fu:Nat) {w0:World} (n1:Int)  {r:Bool}
    (h:Qc3 fu n1=some r) :
    Calls Tryz.prog 189 #[I n1] w0 λe w=>e=.returned (.bool (r))∧Ext [] w0 w:=by
 refine en (vs:=[_]) func189 z ntmps189 z λa k m=>?_;unfold Qc3 at h;refine wr (pN 1 k z λa k=>nn (wr (pN 1 k z λa k=>oE h λx2 Aa h=>cC k m call42 z (Qbn fu _ _ _  Aa) λw5 e a k m=>pN 1 k z λa k=>nn (wp_ret (fS h k m z z)))))
theorem Qrl (fu:Nat) {w0:World} (x1:Pallet)  {r:Bool}
    (h:Qe9 fu x1=some r) :
    Calls Tryz.prog 149 #[.agg (Flat.e (x1)).toArray] w0 λe w=>e=.returned (.bool (r))∧Ext [] w0 w:=by
 refine en (vs:=[_]) func149 z ntmps149 z λa k m=>?_;unfold Qe9 at h;refine wr (Qbg (cs:=[I x1.fW,I x1.fD,I x1.fH,I x1.fQ]) m k z z z z z z λb2 w4 a k m e Ad=>pN 1 k z λa k=>nn (wr (fl Qwi t13 m 0 Ad k z z λa k=>oE h λx5 Af h=>cC k m call189 z (Qff fu _  Af) λw9 e a k m=>pN 1 k z λa k=>Qam (x5) (λAa=>?_) (λAa=>?_))))
 · have h:=Qax Aa h;refine rB k 6 z Aa λk=>fl Qu2 t13 m 0 Ad k z z λa k=>oE h λAg Ah h=>cC k m call189 z (Qff fu _  Ah) λAk e a k m=>pN 2 k z λa k=>Qam (Ag) (λAb=>?_) (λAb=>?_)
   · have h:=Qax Ab h;refine rB k 11 z Ab λk=>fl Qu6 t13 m 0 Ad k z z λa k=>oE h λAj Ai h=>cC k m call189 z (Qff fu _  Ai) λAm e a k m=>pN 2 k z λa k=>Qam (Aj) (λAc=>?_) (λAc=>?_)
     · have h:=Qax Ac h;refine rB k 16 z Ac λk=>fl Qs0 t13 m 0 Ad k z z λa k=>oE h λAo Ae h=>cC k m call42 z (Qbn fu _ _ _  Ae) λAl e a k m=>pN 2 k z λa k=>nn (wp_ret (fS h k m z z))
     have h:=Qay Ac h;refine rB k 16 z Ac λk=>pN 5 k z λa k=>nn (wp_ret (fS h k m z z))
   have h:=Qay Ab h;refine rB k 11 z Ab λk=>pN 10 k z λa k=>nn (wp_ret (fS h k m z z))
 have h:=Qay Aa h;refine rB k 6 z Aa λk=>pN 15 k z λa k=>nn (wp_ret (fS h k m z z))
theorem Qpf (fu:Nat) {w0:World} (Ab:List Pair) (f5:Pair→Option Bool) {v2:Value} {F3:List Nat} (Aa:rd w0 F3 [v2] Ab) {v6:Value} (Ai:Qvf Tryz.prog w0 v6 f5) {r:Int}
    (h:Qb6 fu Ab f5=some r) :
    Calls Tryz.prog 250 #[v2,v6] w0 λe w=>e=.returned (I r)∧Ext [] w0 w:=by
 refine en (vs:=[_,_]) func250 z ntmps250 z λa k m=>?_;obtain ⟨Ae,Ak,rfl,Af,Ah⟩:=Ai;unfold Qb6 at h;refine wr (pN 1 k z λa k=>nn (wp_seq (wr (pN 1 k z λa k=>sv k z (Qa2 (α:=Pair) Aa k underlying26 z z) λa k=>pN 1 k z λa k=>nn (wp_block (Qap (λn a w=>∃ (Ac:Int),K 19 [(0,v2),(1,(.func (.func Ae) #[] Ak.toArray)),(7,I (Ab.length:Int)),(8,I Ac)] a∧St [] w0 w []∧Qba fu Ab f5 n Ac=some r) ?_ ?_ fu _ _ ?_))))))
 · rintro a w ⟨_,_,_,h⟩;exact nS h
 · rintro Ar a Ap ⟨Ac,k,m,h⟩;rw [Qba.eq_2] at h;unfold Qcj at h;refine wr (pN 1 k z λa k=>nn (wp_seq (cI h k z (λAj h=>?_) λAj h=>?_)))
   · refine wp_skip (Qaa ?_);refine wp_seq (wp_block (wr (pN 2 k z λa k=>nn (wr (pN 3 k z λa k=>oE h λAm Ad h=>sv k z (Qak Aa Ad k Jdd z z z) λa k=>sv k z (Qis Aa (m.a00 (Enc.rd_lt Aa)) Ad Jcy k z z) λa k=>oE h λAo Ag h=>Qtt k Af z z z z z z (Ah _ _ _ _ m.ext z Ag) λAq As hR=>?_)))));obtain ⟨rfl,e⟩:=hR;refine ⟨_,z,λa k=>?_⟩;have m:=m.step e;refine nn (cI h k z (λAl h=>?_) λAl h=>?_)
     · refine wr (pN 2 k z λa k=>nn (wp_ret (Qag (Qad (Qad (Qag (Qad ?_)))))));refine fS h k m z z
     refine wp_skip (Qae (Qaa ?_));refine wp_region_lit (pN 2 k z λa k=>nn ?_);exact ⟨w64 (Ac+1),k.keep [0,1,7,8] z,m.sl [] z,h⟩
   refine wp_exit (Qaf (Qaf (Qaj (Qaa ?_))));refine wr (pN 1 k z λa k=>nn (wp_ret (fS h k m z z)))
 exact ⟨0,k.keep [0,1,7,8] z,m.sl [] z,h⟩
theorem Qgz (fu:Nat) {w0:World} (Ab:List Pair) (f5:Pair→Option Bool) {v2:Value} {F3:List Nat} (Aa:rd w0 F3 [v2] Ab) {v6:Value} (Ag:Qvf Tryz.prog w0 v6 f5) {r:Bool}
    (h:Qa9 fu Ab f5=some r) :
    Calls Tryz.prog 205 #[v2,v6] w0 λe w=>e=.returned (.bool (r))∧Ext [] w0 w:=by
 refine en (vs:=[_,_]) func205 z ntmps205 z λa k m=>?_;obtain ⟨Aj,Ak,rfl,Ad,Af⟩:=Ag;unfold Qa9 at h;refine wr (pN 1 k z λa k=>nn (wr (pN 2 k z λa k=>oE h λAl Ah h=>cC k m call250 z (Qpf fu _ _ (m.r Aa) ⟨_,_,z,Ad,λw Ae Ac r e=>Af w Ae Ac r (m.ext.trans e (by simp))⟩ Ah) λAi e a k m=>pN 2 k z λa k=>nn (wp_ret (fS h k m z z)))))
theorem Qyh (fu:Nat) {w0:World} (p1:Pair)  {r:Bool}
    (h:Qkk fu p1=some r) :
    Calls Tryz.prog 206 #[.agg (Flat.e (p1)).toArray] w0 λe w=>e=.returned (.bool (r))∧Ext [] w0 w:=by
 refine en (vs:=[_]) func206 z ntmps206 z λa k m=>?_;unfold Qkk at h;refine wr (Qbg (cs:=[I p1.fA,I p1.fB]) m k z z z z z z λb2 w4 a k m e Ab=>pN 1 k z λa k=>nn (wr (fl Q0q t13 m 0 Ab k z z λa k=>oE h λx5 Ac h=>cC k m call42 z (Qbn fu _ _ _  Ac) λw9 e a k m=>pN 2 k z λa k=>Qam (!x5) (λAa=>?_) (λAa=>?_))))
 · have h:=Qax Aa h;refine rB k 7 z Aa λk=>pN 6 k z λa k=>nn (wp_ret (fS h k m z z))
 have h:=Qay Aa h;refine rB k 7 z Aa λk=>fl Q0m t13 m 0 Ab k z z λa k=>oE h λAf Ad h=>cC k m call42 z (Qbn fu _ _ _  Ad) λAe e a k m=>pN 3 k z λa k=>nn (wp_ret (fS h k m z z))
theorem Qd9 (fu:Nat) {w0:World} (Ab:List Typ) (f5:Typ→Option Bool) {v2:Value} {F3:List Nat} (Aa:rd w0 F3 [v2] Ab) {v6:Value} (Ag:Qvf Tryz.prog w0 v6 f5) {r:Bool}
    (h:Qav fu Ab f5=some r) :
    Calls Tryz.prog 137 #[v2,v6] w0 λe w=>e=.returned (.bool (r))∧Ext [] w0 w:=by
 refine en (vs:=[_,_]) func137 z ntmps137 z λa k m=>?_;obtain ⟨Aj,Ak,rfl,Ad,Af⟩:=Ag;unfold Qav at h;refine wr (pN 1 k z λa k=>nn (wr (pN 2 k z λa k=>oE h λAl Ah h=>cC k m call146 z (Qht fu _ _ (m.r Aa) ⟨_,_,z,Ad,λw Ae Ac r e=>Af w Ae Ac r (m.ext.trans e (by simp))⟩ Ah) λAi e a k m=>pN 2 k z λa k=>nn (wp_ret (fS h k m z z)))))
theorem Q3r (fu:Nat) {w0:World} (x1:Typ)  {r:Bool}
    (h:Qr9 fu x1=some r) :
    Calls Tryz.prog 208 #[.agg (Flat.e (x1)).toArray] w0 λe w=>e=.returned (.bool (r))∧Ext [] w0 w:=by
 refine en (vs:=[_]) func208 z ntmps208 z λa k m=>?_;unfold Qr9 at h;refine wr (Qbg (cs:=[I x1.qQ,I x1.fW,I x1.fH,I x1.fD,I x1.ft,I x1.fQ,I x1.fK]) m k z z z z z z λb2 w4 a k m e Aa=>pN 1 k z λa k=>nn (wr (fl Qtb t13 m 0 Aa k z z λa k=>oE h λx5 Ai h=>cC k m call42 z (Qbn fu _ _ _  Ai) λw9 e a k m=>pN 1 k z λa k=>Qam (x5) (λAd=>?_) (λAd=>?_))))
 · have h:=Qax Ad h;refine rB k 6 z Ad λk=>fl Qvw t13 m 0 Aa k z z λa k=>oE h λAr As h=>cC k m call189 z (Qff fu _  As) λAw e a k m=>pN 2 k z λa k=>Qam (Ar) (λAb=>?_) (λAb=>?_)
   · have h:=Qax Ab h;refine rB k 11 z Ab λk=>fl Qu4 t13 m 0 Aa k z z λa k=>oE h λAo Am h=>cC k m call189 z (Qff fu _  Am) λBa e a k m=>pN 2 k z λa k=>Qam (Ao) (λAe=>?_) (λAe=>?_)
     · have h:=Qax Ae h;refine rB k 16 z Ae λk=>fl Qvg t13 m 0 Aa k z z λa k=>oE h λAl Aq h=>cC k m call189 z (Qff fu _  Aq) λAu e a k m=>pN 2 k z λa k=>Qam (Al) (λAg=>?_) (λAg=>?_)
       · have h:=Qax Ag h;refine rB k 21 z Ag λk=>fl Q20 t13 m 0 Aa k z z λa k=>oE h λAk Aj h=>cC k m call42 z (Qbn fu _ _ _  Aj) λAv e a k m=>pN 2 k z λa k=>Qam (Ak) (λAf=>?_) (λAf=>?_)
         · have h:=Qax Af h;refine rB k 26 z Af λk=>fl Qwl t13 m 0 Aa k z z λa k=>oE h λAh At h=>cC k m call42 z (Qbn fu _ _ _  At) λAy e a k m=>pN 2 k z λa k=>Qam (Ah) (λAc=>?_) (λAc=>?_)
           · have h:=Qax Ac h;refine rB k 31 z Ac λk=>fl Qwf t13 m 0 Aa k z z λa k=>oE h λAz Ap h=>cC k m call42 z (Qbn fu _ _ _  Ap) λAx e a k m=>pN 2 k z λa k=>?_;have k:=k.keep [2] z;refine nn (wp_ret (fS h k m z z))
           have h:=Qay Ac h;refine rB k 31 z Ac λk=>pN 5 k z λa k=>?_;have k:=k.keep [2] z;refine nn (wp_ret (fS h k m z z))
         have h:=Qay Af h;refine rB k 26 z Af λk=>pN 10 k z λa k=>?_;have k:=k.keep [2] z;refine nn (wp_ret (fS h k m z z))
       have h:=Qay Ag h;refine rB k 21 z Ag λk=>pN 15 k z λa k=>?_;have k:=k.keep [2] z;refine nn (wp_ret (fS h k m z z))
     have h:=Qay Ae h;refine rB k 16 z Ae λk=>pN 20 k z λa k=>?_;have k:=k.keep [2] z;refine nn (wp_ret (fS h k m z z))
   have h:=Qay Ab h;refine rB k 11 z Ab λk=>pN 25 k z λa k=>?_;have k:=k.keep [2] z;refine nn (wp_ret (fS h k m z z))
 have h:=Qay Ad h;refine rB k 6 z Ad λk=>pN 30 k z λa k=>?_;have k:=k.keep [2] z;refine nn (wp_ret (fS h k m z z))
theorem Qye (fu:Nat) {w0:World} (t1:Typ)  {r:Bool}
    (h:Qkg fu t1=some r) :
    Calls Tryz.prog 207 #[.agg (Flat.e (t1)).toArray] w0 λe w=>e=.returned (.bool (r))∧Ext [] w0 w:=by
 refine en (vs:=[_]) func207 z ntmps207 z λa k m=>?_;unfold Qkg at h;refine wr (Qbg (cs:=[I t1.qQ,I t1.fW,I t1.fH,I t1.fD,I t1.ft,I t1.fQ,I t1.fK]) m k z z z z z z λb2 w4 a k m e Ab=>pN 1 k z λa k=>nn (wr (sv k z (rL Qub m 0 Ab 0 k z) λa k=>oE h λx5 Aa h=>cC k m call208 z (Q3r fu (t1:Typ)  Aa) λw9 e a k m=>pN 2 k z λa k=>nn (wp_ret (fS h k m z z)))))
theorem Q3g (fu:Nat) {w0:World} (x1:Item)  {r:Bool}
    (h:Qsc fu x1=some r) :
    Calls Tryz.prog 209 #[.agg (Flat.e (x1)).toArray] w0 λe w=>e=.returned (.bool (r))∧Ext [] w0 w:=by
 refine en (vs:=[_]) func209 z ntmps209 z λa k m=>?_;unfold Qsc at h;refine wr (Qbg (cs:=[I x1.qQ,I x1.fW,I x1.fH,I x1.fD,I x1.fQ,I x1.fL,I x1.f0]) m k z z z z z z λb2 w4 a k m e Aa=>pN 1 k z λa k=>nn (wr (fl Qxy t13 m 0 Aa k z z λa k=>oE h λx5 Ai h=>cC k m call42 z (Qbn fu _ _ _  Ai) λw9 e a k m=>pN 1 k z λa k=>Qam (x5) (λAd=>?_) (λAd=>?_))))
 · have h:=Qax Ad h;refine rB k 6 z Ad λk=>fl Qwt t13 m 0 Aa k z z λa k=>oE h λAr As h=>cC k m call189 z (Qff fu _  As) λAw e a k m=>pN 2 k z λa k=>Qam (Ar) (λAb=>?_) (λAb=>?_)
   · have h:=Qax Ab h;refine rB k 11 z Ab λk=>fl Qws t13 m 0 Aa k z z λa k=>oE h λAo Am h=>cC k m call189 z (Qff fu _  Am) λBa e a k m=>pN 2 k z λa k=>Qam (Ao) (λAe=>?_) (λAe=>?_)
     · have h:=Qax Ae h;refine rB k 16 z Ae λk=>fl Qvt t13 m 0 Aa k z z λa k=>oE h λAl Aq h=>cC k m call189 z (Qff fu _  Aq) λAu e a k m=>pN 2 k z λa k=>Qam (Al) (λAg=>?_) (λAg=>?_)
       · have h:=Qax Ag h;refine rB k 21 z Ag λk=>fl Qvk t13 m 0 Aa k z z λa k=>oE h λAk Aj h=>cC k m call42 z (Qbn fu _ _ _  Aj) λAv e a k m=>pN 2 k z λa k=>Qam (Ak) (λAf=>?_) (λAf=>?_)
         · have h:=Qax Af h;refine rB k 26 z Af λk=>fl Quj t13 m 0 Aa k z z λa k=>oE h λAh At h=>cC k m call42 z (Qbn fu _ _ _  At) λAy e a k m=>pN 2 k z λa k=>Qam (Ah) (λAc=>?_) (λAc=>?_)
           · have h:=Qax Ac h;refine rB k 31 z Ac λk=>fl Qvl t13 m 0 Aa k z z λa k=>oE h λAz Ap h=>cC k m call42 z (Qbn fu _ _ _  Ap) λAx e a k m=>pN 2 k z λa k=>?_;have k:=k.keep [2] z;refine nn (wp_ret (fS h k m z z))
           have h:=Qay Ac h;refine rB k 31 z Ac λk=>pN 5 k z λa k=>?_;have k:=k.keep [2] z;refine nn (wp_ret (fS h k m z z))
         have h:=Qay Af h;refine rB k 26 z Af λk=>pN 10 k z λa k=>?_;have k:=k.keep [2] z;refine nn (wp_ret (fS h k m z z))
       have h:=Qay Ag h;refine rB k 21 z Ag λk=>pN 15 k z λa k=>?_;have k:=k.keep [2] z;refine nn (wp_ret (fS h k m z z))
     have h:=Qay Ae h;refine rB k 16 z Ae λk=>pN 20 k z λa k=>?_;have k:=k.keep [2] z;refine nn (wp_ret (fS h k m z z))
   have h:=Qay Ab h;refine rB k 11 z Ab λk=>pN 25 k z λa k=>?_;have k:=k.keep [2] z;refine nn (wp_ret (fS h k m z z))
 have h:=Qay Ad h;refine rB k 6 z Ad λk=>pN 30 k z λa k=>?_;have k:=k.keep [2] z;refine nn (wp_ret (fS h k m z z))
theorem Qz5 (fu:Nat) {w0:World} (r1:Request) {Aq:List Value} {F3:List Nat} (Bk:rd w0 F3 Aq r1) {r:Bool}
    (h:Qon fu r1=some r) :
    Calls Tryz.prog 132 #[.agg Aq.toArray] w0 λe w=>e=.returned (.bool (r))∧Ext [] w0 w:=by
 refine en (vs:=[_]) func132 z ntmps132 z λa k m=>?_;obtain ⟨v5,F6,v7,F8,v9,Ch,rfl,rfl,Ao,Am,Ag⟩:=Bk;unfold Qon at h;refine wr (Qbg (cs:=(cR r1 v5 v7 v9)) m k z z z z z z λAj Ar a k m e Aa=>pN 1 k z λa k=>nn (Qc1 (λa w=>K 70 [(1,pt Aj)] a∧St [] w0 w [([Aj],Ar)]∧Qn0 fu r1=some r) ?_ ?_))
 · rintro a Cg ⟨k,m,h⟩;unfold Qn0 at h;refine wp_seq (wr (fl Qoq Q2s m 0 Aa k z z λa k=>oE h λBq Bl h=>cC k m call205 z (Qgz fu _ _ (m.r Ao) ⟨206,[],z,call206,λw Cc Ca r e Bb hx=>by subst Bb; have m:=m.step e; exact Qyh fu _  hx⟩ Bl) λCk e a k m=>nn (cI h k rfl (λAw h=>?_) λAw h=>?_)))
   · refine wr (pN 1 k z λa k=>nn (wp_ret (Qad ?_)));refine fS h k m z z
   refine wp_skip (Qaa ?_);refine Qc1 (λa w=>K 70 [(1,pt Aj)] a∧St [] w0 w [([Aj],Ar)]∧Qn7 fu r1=some r) ?_ ?_
   · rintro a Bt ⟨k,m,h⟩;unfold Qn7 at h;refine wr (pN 1 k z λa k=>nn (wp_seq (wr (fl Qhm Qwn m 0 Aa k z z λa k=>sv k z (Qa2 (α:=Item) Ag k underlying28 z z) λa k=>pN 1 k z λa k=>nn (wp_block (Qap (λn a w=>∃ (Ak:Int) (Al:Int),K 70 [(3,I Ak),(54,v9),(55,I (r1.fU.length:Int)),(56,I Al)] a∧St [] w0 w []∧Qe3 fu r1 n Ak Al=some r) ?_ ?_ fu _ _ ?_))))))
     · rintro a w ⟨_,_,_,_,h⟩;exact nS h
     · rintro Bv a Bz ⟨Ak,Al,k,m,h⟩;rw [Qe3.eq_2] at h;unfold Qj5 at h;refine wr (pN 1 k z λa k=>nn (wp_seq (cI h k z (λBg h=>?_) λBg h=>?_)))
       · refine wp_skip (Qaa ?_);refine wp_seq (wp_block (wr (oE h λAb As h=>sv k z (Qak Ag As k Q0d z z z) λa k=>sv k z (Qis Ag (m.a00 (Enc.rd_lt Ag)) As Qug k z z) λa k=>Qar (cs:=[I 0,I 0,I 0,I 0,I 0,I 0,I 0]) m k zeroValue113 z z z z z λCf By a k m e Av=>sT (cs':=[I Ab.qQ,I Ab.fW,I Ab.fH,I Ab.fD,I Ab.fQ,I Ab.fL,I Ab.f0]) sizeOf113 m 0 Av 0 k z z λBr a k e m Ap=>nn (wp_seq (wr (sv k z (rL Qug m 0 Ap 0 k z) λa k=>oE h λCb Bo h=>cC k m call209 z (Q3g fu (Ab:Item)  Bo) λCl e a k m=>?_))))));refine pN 1 k z λa k=>nn (cI h k z (λAt h=>?_) λAt h=>?_)
         · refine wr (pN 1 k z λa k=>nn (wp_ret (Qad (Qag (Qad (Qad (Qag (Qad ?_))))))));refine fS h k m z z
         refine wp_skip (Qaa ?_);refine wp_region_lit (pN 1 k z λa k=>fl Qvl t13 m 0 Ap k z z λa k=>pN 2 k z λa k=>wpList_nil (Qae (Qaa ?_)));refine wp_region_lit (pN 2 k z λa k=>nn ?_);exact ⟨w64 (Ak+Ab.f0),w64 (Al+1),k.keep [3,54,55,56] z,m.sl [] z,h⟩
       refine wp_exit (Qaf (Qaf (Qaj (Qaa ?_))));refine wr (pN 3 k z λa k=>nn (wp_ret (fS h k m z z)))
     exact ⟨0,0,k.keep [3,54,55,56] z,m.sl [] z,h⟩
   refine wr (fl Qey Qvy m 0 Aa k z z λa k=>sv k z (Qa2 (α:=Typ) Am k underlying27 z z) λa k=>oE h λBn Bh h=>cC k m call42 z (Qbn fu _ _ _  Bh) λCd e a k m=>pN 2 k z λa k=>Qam (!Bn) (λAc=>?_) (λAc=>?_))
   · have h:=Qax Ac h;refine rB k 36 z Ac λk=>pN 16 k z λa k=>?_;have k:=k.keep [1,52] z;refine nn (wp_cond_true (k.ev z) (wr (pN 1 k z λa k=>nn (wp_ret (Qad ?_)))));refine fS h k m z z
   have h:=Qay Ac h;refine rB k 36 z Ac λk=>fl Qey Qvy m 0 Aa k z z λa k=>oE h λBi Ax h=>cC k m call137 z (Qd9 fu _ _ (m.r Am) ⟨207,[],z,call207,λw Bw Bu r e Bp hx=>by subst Bp; have m:=m.step e; exact Qye fu _  hx⟩ Ax) λCi e a k m=>pN 2 k rfl λa k=>Qam (Bi) (λAh=>?_) (λAh=>?_)
   · have h:=Qax Ah h;refine rB k 41 z Ah λk=>pN 11 k z λa k=>?_;have k:=k.keep [1,52] z;refine nn (wp_cond_true (k.ev z) (wr (pN 1 k z λa k=>nn (wp_ret (Qad ?_)))));refine fS h k m z z
   have h:=Qay Ah h;refine rB k 41 z Ah λk=>fl Q5a t13 m 0 Aa k z z λa k=>oE h λAz Be h=>cC k m call42 z (Qbn fu _ _ _  Be) λBx e a k m=>pN 3 k z λa k=>Qam (!Az) (λAe=>?_) (λAe=>?_)
   · have h:=Qax Ae h;refine rB k 47 z Ae λk=>pN 5 k z λa k=>?_;have k:=k.keep [1,52] z;refine nn (wp_cond_true (k.ev z) (wr (pN 1 k z λa k=>nn (wp_ret (Qad ?_)))));refine fS h k m z z
   have h:=Qay Ae h;refine rB k 47 z Ae λk=>fl Qhm Qwn m 0 Aa k z z λa k=>sv k z (Qa2 (α:=Item) Ag k underlying28 z z) λa k=>pN 2 k z λa k=>?_;have k:=k.keep [1,52] z;refine nn (cI h k z (λBc h=>?_) λBc h=>?_)
   · refine wr (pN 1 k z λa k=>nn (wp_ret (Qad ?_)));refine fS h k m z z
   refine wp_skip (Qaa ?_);exact ⟨k.keep [1] z,m.sl [0] z,h⟩
 refine wr (fl Q44 t13 m 0 Aa k z z λa k=>oE h λBj Ba h=>cC k m call42 z (Qbn fu _ _ _  Ba) λCj e a k m=>pN 2 k z λa k=>Qam (!Bj) (λAi=>?_) (λAi=>?_))
 · have h:=Qax Ai h;refine rB k 10 z Ai λk=>pN 17 k z λa k=>nn (wp_cond_true (k.ev z) (wr (pN 1 k z λa k=>?_)));have k:=k.keep [2] z;refine nn (wp_ret (Qad ?_));refine fS h k m z z
 have h:=Qay Ai h;refine rB k 10 z Ai λk=>sv k z (Qhu Qt3 k z z) λa k=>sv k z (rL Qxu m 0 Aa 1 k z) λa k=>oE h λAu Ay h=>cC k m call149 z (Qrl fu (r1.fJ:Pallet)  Ay) λBs e a k m=>pN 3 k z λa k=>Qam (!Au) (λAf=>?_) (λAf=>?_)
 · have h:=Qax Af h;refine rB k 16 z Af λk=>pN 11 k z λa k=>nn (wp_cond_true (k.ev z) (wr (pN 1 k z λa k=>?_)));have k:=k.keep [2] z;refine nn (wp_ret (Qad ?_));refine fS h k m z z
 have h:=Qay Af h;refine rB k 16 z Af λk=>fl Quc t13 m 0 Aa k z z λa k=>oE h λBd Bm h=>cC k m call42 z (Qbn fu _ _ _  Bm) λCe e a k m=>pN 3 k z λa k=>Qam (!Bd) (λAd=>?_) (λAd=>?_)
 · have h:=Qax Ad h;refine rB k 22 z Ad λk=>pN 5 k z λa k=>nn (wp_cond_true (k.ev z) (wr (pN 1 k z λa k=>?_)));have k:=k.keep [2] z;refine nn (wp_ret (Qad ?_));refine fS h k m z z
 have h:=Qay Ad h;refine rB k 22 z Ad λk=>fl Qoq Q2s m 0 Aa k z z λa k=>sv k z (Qa2 (α:=Pair) Ao k underlying26 z z) λa k=>pN 2 k z λa k=>nn (cI h k z (λBf h=>?_) λBf h=>?_)
 · refine wr (pN 1 k z λa k=>?_);have k:=k.keep [2] z;refine nn (wp_ret (Qad ?_));refine fS h k m z z
 refine wp_skip (Qaa ?_);exact ⟨k.keep [1] z,m.sl [0] z,h⟩
theorem Qzb (fu:Nat) {w0:World} (q1:Typ) (x2:Typ) {b3:Nat} (Aa:bx w0 b3 [I x2.qQ,I x2.fW,I x2.fH,I x2.fD,I x2.ft,I x2.fQ,I x2.fK] 90) {r:Bool}
    (h:Qqw fu q1 x2=some r) :
    Calls Tryz.prog 210 #[.agg (Flat.e (q1)).toArray,pt b3] w0 λe w=>e=.returned (.bool (r))∧Ext [] w0 w:=by
 refine en (vs:=[_,_]) func210 z ntmps210 z λa k m=>?_;unfold Qqw at h;refine wr (Qbg (cs:=[I q1.qQ,I q1.fW,I q1.fH,I q1.fD,I q1.ft,I q1.fQ,I q1.fK]) m k z z z z z z λb5 w7 a k m e Ab=>pN 1 k z λa k=>nn (wr (fl Qtb t13 m 0 Ab k z z λa k=>sv k z (Qhu Qtb k z z) λa k=>sv k z (Qan t13 (r:=[]) (Aa.at (m.a00 Aa.lt1) 0 1 z z z) k z z) λa k=>pN 2 k z λa k=>nn (wp_ret (fS h k m z z)))))
theorem Qy7 (fu:Nat) {w0:World} (q1:Item) (x2:Item) {b3:Nat} (Aa:bx w0 b3 [I x2.qQ,I x2.fW,I x2.fH,I x2.fD,I x2.fQ,I x2.fL,I x2.f0] 113) {r:Bool}
    (h:Qqo fu q1 x2=some r) :
    Calls Tryz.prog 211 #[.agg (Flat.e (q1)).toArray,pt b3] w0 λe w=>e=.returned (.bool (r))∧Ext [] w0 w:=by
 refine en (vs:=[_,_]) func211 z ntmps211 z λa k m=>?_;unfold Qqo at h;refine wr (Qbg (cs:=[I q1.qQ,I q1.fW,I q1.fH,I q1.fD,I q1.fQ,I q1.fL,I q1.f0]) m k z z z z z z λb5 w7 a k m e Ab=>pN 1 k z λa k=>nn (wr (fl Qxy t13 m 0 Ab k z z λa k=>sv k z (Qhu Qxy k z z) λa k=>sv k z (Qan t13 (r:=[]) (Aa.at (m.a00 Aa.lt1) 0 1 z z z) k z z) λa k=>pN 2 k z λa k=>nn (wp_ret (fS h k m z z)))))
theorem Qpq (fu:Nat) {w0:World} (Ab:List Item) (f5:Item→Option Bool) {v2:Value} {F3:List Nat} (Aa:rd w0 F3 [v2] Ab) {v6:Value} (Ai:Qvf Tryz.prog w0 v6 f5) {r:Int}
    (h:Qcc fu Ab f5=some r) :
    Calls Tryz.prog 188 #[v2,v6] w0 λe w=>e=.returned (I r)∧Ext [] w0 w:=by
 refine en (vs:=[_,_]) func188 z ntmps188 z λa k m=>?_;obtain ⟨Ae,Ak,rfl,Af,Ah⟩:=Ai;unfold Qcc at h;refine wr (pN 1 k z λa k=>nn (wp_seq (wr (pN 1 k z λa k=>sv k z (Qa2 (α:=Item) Aa k underlying28 z z) λa k=>pN 1 k z λa k=>nn (wp_block (Qap (λn a w=>∃ (Ac:Int),K 19 [(0,v2),(1,(.func (.func Ae) #[] Ak.toArray)),(7,I (Ab.length:Int)),(8,I Ac)] a∧St [] w0 w []∧Qa8 fu Ab f5 n Ac=some r) ?_ ?_ fu _ _ ?_))))))
 · rintro a w ⟨_,_,_,h⟩;exact nS h
 · rintro Ar a Ap ⟨Ac,k,m,h⟩;rw [Qa8.eq_2] at h;unfold Qci at h;refine wr (pN 1 k z λa k=>nn (wp_seq (cI h k z (λAj h=>?_) λAj h=>?_)))
   · refine wp_skip (Qaa ?_);refine wp_seq (wp_block (wr (pN 2 k z λa k=>nn (wr (pN 3 k z λa k=>oE h λAm Ad h=>sv k z (Qak Aa Ad k Q0d z z z) λa k=>sv k z (Qis Aa (m.a00 (Enc.rd_lt Aa)) Ad Qug k z z) λa k=>oE h λAo Ag h=>Qtt k Af z z z z z z (Ah _ _ _ _ m.ext z Ag) λAq As hR=>?_)))));obtain ⟨rfl,e⟩:=hR;refine ⟨_,z,λa k=>?_⟩;have m:=m.step e;refine nn (cI h k z (λAl h=>?_) λAl h=>?_)
     · refine wr (pN 2 k z λa k=>nn (wp_ret (Qag (Qad (Qad (Qag (Qad ?_)))))));refine fS h k m z z
     refine wp_skip (Qae (Qaa ?_));refine wp_region_lit (pN 2 k z λa k=>nn ?_);exact ⟨w64 (Ac+1),k.keep [0,1,7,8] z,m.sl [] z,h⟩
   refine wp_exit (Qaf (Qaf (Qaj (Qaa ?_))));refine wr (pN 1 k z λa k=>nn (wp_ret (fS h k m z z)))
 exact ⟨0,k.keep [0,1,7,8] z,m.sl [] z,h⟩
theorem Qcw (fu:Nat) {w0:World} (Ab:List Item) (f5:Item→Option Bool) {v2:Value} {F3:List Nat} (Aa:rd w0 F3 [v2] Ab) {v6:Value} (Ag:Qvf Tryz.prog w0 v6 f5) {r:Bool}
    (h:Qaw fu Ab f5=some r) :
    Calls Tryz.prog 98 #[v2,v6] w0 λe w=>e=.returned (.bool (r))∧Ext [] w0 w:=by
 refine en (vs:=[_,_]) func98 z ntmps98 z λa k m=>?_;obtain ⟨Aj,Ak,rfl,Ad,Af⟩:=Ag;unfold Qaw at h;refine wr (pN 1 k z λa k=>nn (wr (pN 2 k z λa k=>oE h λAl Ah h=>cC k m call188 z (Qpq fu _ _ (m.r Aa) ⟨_,_,z,Ad,λw Ae Ac r e=>Af w Ae Ac r (m.ext.trans e (by simp))⟩ Ah) λAi e a k m=>pN 2 k z λa k=>nn (wp_ret (fS h k m z z)))))
theorem Qzc (fu:Nat) {w0:World} (p1:Pair) (x2:Request) {v5:Value} {F6:List Nat} {v8:Value} {F9:List Nat} {Ac:Value} {Ae:List Nat} {b3:Nat} (Ab:bx w0 b3 (cR x2 v5 v8 Ac) 30) (Aj:rd w0 F6 [v5] x2.fT) (Ai:rd w0 F9 [v8] x2.fR) (Af:rd w0 Ae [Ac] x2.fU) {r:Bool}
    (h:Qmv fu p1 x2=some r) :
    Calls Tryz.prog 212 #[.agg (Flat.e (p1)).toArray,pt b3] w0 λe w=>e=.returned (.bool (r))∧Ext [] w0 w:=by
 refine en (vs:=[_,_]) func212 z ntmps212 z λa k m=>?_;unfold Qmv at h;refine wr (Qbg (cs:=[I p1.fA,I p1.fB]) m k z z z z z z λAg Ah a k m e Ad=>pN 1 k z λa k=>nn (wr (fl Q0q t13 m 0 Ad k z z λa k=>sv k z (Qhu Quc k z z) λa k=>sv k z (Qan t13 (r:=[]) (Ab.at (m.a00 Ab.lt1) 5 1 z z z) k z z) λa k=>pN 2 k z λa k=>Qam (decide (p1.fA≥x2.fG)) (λAa=>?_) (λAa=>?_))))
 · have h:=Qax Aa h;refine rB k 9 z Aa λk=>pN 7 k z λa k=>nn (wp_ret (fS h k m z z))
 have h:=Qay Aa h;refine rB k 9 z Aa λk=>fl Q0m t13 m 0 Ad k z z λa k=>sv k z (Qhu Quc k z z) λa k=>sv k z (Qan t13 (r:=[]) (Ab.at (m.a00 Ab.lt1) 5 1 z z z) k z z) λa k=>pN 3 k z λa k=>nn (wp_ret (fS h k m z z))
theorem Q18 (fu:Nat) {w0:World} (r1:Request) {As:List Value} {F3:List Nat} (Bk:rd w0 F3 As r1) {r:Bool}
    (h:Qp3 fu r1=some r) :
    Calls Tryz.prog 133 #[.agg As.toArray] w0 λe w=>e=.returned (.bool (r))∧Ext [] w0 w:=by
 refine en (vs:=[_]) func133 z ntmps133 z λa k m=>?_;obtain ⟨v5,F6,v7,F8,v9,Ck,rfl,rfl,Ai,Aa,Ab⟩:=Bk;unfold Qp3 at h;refine wr (Qbg (cs:=(cR r1 v5 v7 v9)) m k z z z z z z λAf Am a k m e Ad=>pN 1 k z λa k=>nn (wp_seq (wr (fl Qey Qvy m 0 Ad k z z λa k=>sv k z (Qa2 (α:=Typ) Aa k underlying27 z z) λa k=>pN 1 k z λa k=>nn (wp_block (Qap (λn a w=>∃ (Al:Int),K 59 [(1,pt Af),(10,v7),(11,I (r1.fR.length:Int)),(12,I Al)] a∧St [] w0 w [([Af],Am)]∧Qfy fu r1 n Al=some r) ?_ ?_ fu _ _ ?_))))))
 · rintro a w ⟨_,_,_,h⟩;exact nS h
 · rintro Ca a Co ⟨Al,k,m,h⟩;rw [Qfy.eq_2] at h;unfold Ql2 at h;refine wr (pN 1 k z λa k=>nn (wp_seq (cI h k z (λBn h=>?_) λBn h=>?_)))
   · refine wp_skip (Qaa ?_);refine wp_seq (wp_block (wr (pN 1 k z λa k=>oE h λAg Aq h=>sv k z (Qak Aa Aq k Q4p z z z) λa k=>sv k z (Qis Aa (m.a00 (Enc.rd_lt Aa)) Aq Qub k z z) λa k=>Qar (cs:=[I 0,I 0,I 0,I 0,I 0,I 0,I 0]) m k zeroValue90 z z z z z λBc Bx a k m e Av=>pN 1 k z λa k=>sT (cs':=[I Ag.qQ,I Ag.fW,I Ag.fH,I Ag.fD,I Ag.ft,I Ag.fQ,I Ag.fK]) sizeOf90 m 0 Av 0 k z z λCj a k e m Bm=>nn (wr (fl Qey Qvy m 1 Ad k z z λa k=>pN 1 k z λa k=>oE h λBu Ba h=>?_)))));refine Q90 Aa Ba k Q4p z z z z z z λBy a k At=>pN 1 k z λa k=>oE h λCb Be h=>cC k m call137 z (Qd9 fu _ _ (m.r At) ⟨210,[pt Bc],z,call210,λw Bs Bw r e Bj hx=>by subst Bj; have m:=m.step e; exact Qzb fu _ _ (Bm.agr (m.a 0 rfl) (by simp)) hx⟩ Be) λCm e a k m=>nn (cI h k rfl (λBf h=>?_) λBf h=>?_)
     · refine wr (pN 1 k z λa k=>nn (wp_ret (Qag (Qad (Qad (Qag (Qad ?_)))))));refine fS h k m z z
     refine wp_skip (Qae (Qaa ?_));refine wp_region_lit (pN 2 k z λa k=>nn ?_);exact ⟨w64 (Al+1),k.keep [1,10,11,12] z,m.sl [1] z,h⟩
   refine wp_exit (Qaf (Qaf (Qaj (Qaa ?_))));refine wp_seq (wr (fl Qhm Qwn m 0 Ad k z z λa k=>sv k z (Qa2 (α:=Item) Ab k underlying28 z z) λa k=>pN 1 k z λa k=>nn (wp_block (Qap (λn a w=>∃ (Ah:Int),K 59 [(1,pt Af),(25,v9),(26,I (r1.fU.length:Int)),(27,I Ah)] a∧St [] w0 w [([Af],Am)]∧Qd3 fu r1 n Ah=some r) ?_ ?_ fu _ _ ?_))))
   · rintro a w ⟨_,_,_,h⟩;exact nS h
   · rintro Bb a Br ⟨Ah,k,m,h⟩;rw [Qd3.eq_2] at h;unfold Qlk at h;refine wr (pN 1 k z λa k=>nn (wp_seq (cI h k z (λBg h=>?_) λBg h=>?_)))
     · refine wp_skip (Qaa ?_);refine Qc1 (λa w=>K 59 [(1,pt Af),(25,v9),(26,I (r1.fU.length:Int)),(27,I Ah)] a∧St [] w0 w [([Af],Am)]∧Qpt fu (Qd3 fu r1 Bb) Ah=some r) ?_ ?_
       · rintro a Cq ⟨k,m,h⟩;unfold Qpt at h;refine wp_region_lit (pN 2 k z λa k=>nn ?_);exact ⟨w64 (Ah+1),k.keep [1,25,26,27] z,m.sl [0] z,h⟩
       refine wp_block (wr (pN 1 k z λa k=>oE h λAc Ao h=>sv k z (Qak Ab Ao k Q0d z z z) λa k=>sv k z (Qis Ab (m.a00 (Enc.rd_lt Ab)) Ao Qug k z z) λa k=>Qar (cs:=[I 0,I 0,I 0,I 0,I 0,I 0,I 0]) m k zeroValue113 z z z z z λAy Bt a k m e Bi=>pN 1 k z λa k=>sT (cs':=[I Ac.qQ,I Ac.fW,I Ac.fH,I Ac.fD,I Ac.fQ,I Ac.fL,I Ac.f0]) sizeOf113 m 0 Bi 0 k z z λBv a k e m Ar=>nn (wr (fl Quj t13 m 0 Ar k z z λa k=>?_))));refine fl Quc t13 m 1 Ad k z z λa k=>pN 2 k z λa k=>Qam (decide (Ac.fL≥r1.fG)) (λAj=>?_) (λAj=>?_)
       · have h:=Qax Aj h;refine rB k 37 z Aj λk=>pN 7 k z λa k=>nn (wp_cond_true (k.ev z) (wr (pN 1 k z λa k=>nn (wp_ret (Qag (Qad (Qad (Qag (Qad ?_)))))))));refine fS h k m z z
       have h:=Qay Aj h;refine rB k 37 z Aj λk=>fl Qhm Qwn m 1 Ad k z z λa k=>pN 1 k z λa k=>oE h λCi Ax h=>Q90 Ab Ax k Q0d z z z z z z λBp a k Ap=>pN 1 k z λa k=>oE h λBq Aw h=>cC k m call98 z (Qcw fu _ _ (m.r Ap) ⟨211,[pt Ay],z,call211,λw Cc Ch r e Bh hx=>by subst Bh; have m:=m.step e; exact Qy7 fu _ _ (Ar.agr (m.a 0 rfl) (by simp)) hx⟩ Aw) λCp e a k m=>pN 1 k rfl λa k=>nn (cI h k rfl (λAz h=>?_) λAz h=>?_)
       · refine wr (pN 1 k z λa k=>nn (wp_ret (Qag (Qad (Qad (Qag (Qad ?_)))))));refine fS h k m z z
       refine wp_skip (Qae (Qaa ?_));exact ⟨k.keep [1,25,26,27] z,m.sl [1] z,h⟩
     refine wp_exit (Qaf (Qaf (Qaj (Qaa ?_))));refine wr (sv k z (rL Qfl m 0 Ad 0 k z) λa k=>oE h λAe Bo h=>cC k m call131 z (Qtw fu _ (Qah (m.r Ai) (m.r Aa) (m.r Ab)) Bo) λCn e a k m=>pN 3 k z λa k=>Qar (cs:=[I 0,I 0,I 0,I 0,I 0,I 0,I 0]) m k zeroValue90 z z z z z λCs Cg a k m e Bd=>?_);refine sT (cs':=[I Ae.1.qQ,I Ae.1.fW,I Ae.1.fH,I Ae.1.fD,I Ae.1.ft,I Ae.1.fQ,I Ae.1.fK]) sizeOf90 m 0 Bd 0 k z z λBz a k e m Cf=>pN 1 k z λa k=>nn (wr (pN 2 k z λa k=>Qam (Ae.2) (λAk=>?_) (λAk=>?_)))
     · have h:=Qax Ak h;refine rB k 52 z Ak λk=>fl Qoq Q2s m 1 Ad k z z λa k=>pN 1 k z λa k=>oE h λCd Bl h=>cC k m call205 z (Qgz fu _ _ (m.r Ai) ⟨212,[pt Af],z,call212,λw Cl Ce r e Au hx=>by subst Au; have m:=m.step e; exact Qzc fu _ _ (Ad.agr (m.a 1 rfl) (by simp)) (m.r Ai) (m.r Aa) (m.r Ab) hx⟩ Bl) λCr e a k m=>pN 3 k rfl λa k=>nn (wp_ret (fS h k m rfl rfl))
     have h:=Qay Ak h;refine rB k 52 z Ak λk=>pN 7 k z λa k=>nn (wp_ret (fS h k m z z))
   exact ⟨0,k.keep [1,25,26,27] z,m.sl [0] z,h⟩
 exact ⟨0,k.keep [1,10,11,12] z,m.sl [0] z,h⟩
theorem Qre (fu:Nat) {w0:World} (Ac:List Pair) (v5:Pair) {v2:Value} {F3:List Nat} (Aa:rd w0 F3 [v2] Ac) {r:Int}
    (h:Qdw fu Ac v5=some r) :
    Calls Tryz.prog 259 #[v2,.agg (Flat.e (v5)).toArray] w0 λe w=>e=.returned (I r)∧Ext [] w0 w:=by
 refine en (vs:=[_,_]) func259 z ntmps259 z λa k m=>?_;unfold Qdw at h;refine wr (Qbg (cs:=[I v5.fA,I v5.fB]) m k z z z z z z λb6 w9 a k m e Ae=>pN 1 k z λa k=>nn (wp_seq (wr (pN 1 k z λa k=>sv k z (Qa2 (α:=Pair) Aa k underlying26 z z) λa k=>pN 1 k z λa k=>nn (wp_block (Qap (λn a w=>∃ (Ab:Int),K 19 [(0,v2),(3,pt b6),(7,I (Ac.length:Int)),(8,I Ab)] a∧St [] w0 w [([b6],w9)]∧Qbh fu Ac v5 n Ab=some r) ?_ ?_ fu _ _ ?_))))))
 · rintro a w ⟨_,_,_,h⟩;exact nS h
 · rintro Ak a Aj ⟨Ab,k,m,h⟩;rw [Qbh.eq_2] at h;unfold Qc6 at h;refine wr (pN 1 k z λa k=>nn (wp_seq (cI h k z (λAg h=>?_) λAg h=>?_)))
   · refine wp_skip (Qaa ?_);refine wp_seq (wp_block (wr (pN 2 k z λa k=>nn (wp_seq (Qiw [] Qim m z λAf hMd=>?_)))));have m:=hMd;have s:=Ext.refl ([]:List Nat) Af;refine dM [1,2] 2 z k z s λa k=>dT k 0 z z s (λw s=>Qde Jcy (Ae.at ((hMd.step s).a 0 z) 0 2 z z z) z k z z) λa k=>oE h λAi Ad h=>dT k 3 z z s (λw s=>Qak Aa Ad k Jdd z z z) λa k=>dT k 4 z z s (λw s=>Qis Aa ((hMd.step s).a00 (Enc.rd_lt Aa)) Ad Jcy k z z) λa k=>dT k 5 z z s (λw s=>Jkm Jit (x:=v5) (y:=Ai) k z z z z z) λa k=>dD ((Qaa ?_));refine cI h k z (λAh h=>?_) λAh h=>?_
     · refine wr (pN 2 k z λa k=>nn (wp_ret (Qag (Qad (Qad (Qag (Qad ?_)))))));refine fS h k m z z
     refine wp_skip (Qae (Qaa ?_));refine wp_region_lit (pN 2 k z λa k=>nn ?_);exact ⟨w64 (Ab+1),k.keep [0,3,7,8] z,m.sl [0] z,h⟩
   refine wp_exit (Qaf (Qaf (Qaj (Qaa ?_))));refine wr (pN 1 k z λa k=>nn (wp_ret (fS h k m z z)))
 exact ⟨0,k.keep [0,3,7,8] z,m.sl [0] z,h⟩
theorem Qpv (fu:Nat) {w0:World} (Ab:List Pair) (v5:Pair) {v2:Value} {F3:List Nat} (Aa:rd w0 F3 [v2] Ab) {r:Bool}
    (h:Qdd fu Ab v5=some r) :
    Calls Tryz.prog 251 #[v2,.agg (Flat.e (v5)).toArray] w0 λe w=>e=.returned (.bool (r))∧Ext [] w0 w:=by
 refine en (vs:=[_,_]) func251 z ntmps251 z λa k m=>?_;unfold Qdd at h;refine wr (Qbg (cs:=[I v5.fA,I v5.fB]) m k z z z z z z λb6 w9 a k m e Ac=>pN 1 k z λa k=>nn (wr (pN 1 k z λa k=>sv k z (rL Jcy m 0 Ac 0 k z) λa k=>oE h λAe Ad h=>cC k m call259 z (Qre fu _ (v5:Pair) (m.r Aa) Ad) λAf e a k m=>pN 2 k z λa k=>nn (wp_ret (fS h k m z z)))))
theorem Qr0 (fu:Nat) {w0:World} (Aa:List Pair) (a5:Int) (b6:Int) {v2:Value} {F3:List Nat} (Ab:rd w0 F3 [v2] Aa) {r:Bool}
    (h:Qh4 fu Aa a5 b6=some r) :
    Calls Tryz.prog 213 #[v2,I a5,I b6] w0 λe w=>e=.returned (.bool (r))∧Ext [] w0 w:=by
 refine en (vs:=[_,_,_]) func213 z ntmps213 z λa k m=>?_;unfold Qh4 at h;refine wr (pN 1 k z λa k=>nn (wr (pN 3 k z λa k=>sv k z (Qa7 Jbd k (cs:=#[I a5,I b6]) (ps:=[(0,.tmp 8),(1,.tmp 9)]) z z (by kernel_rfl)) λa k=>oE h λx7 Ac h=>cC k m call251 z (Qpv fu _ (⟨a5,b6⟩:Pair) (m.r Ab) Ac) λAd e a k m=>pN 1 k z λa k=>nn (wp_ret (fS h k m z z)))))
theorem Q2k (fu:Nat) {w0:World} (Ad:List Pair) (Aa:Int) {v2:Value} {F3:List Nat} (Ac:rd w0 F3 [v2] Ad) {r:Bool}
    (h:Qp8 fu Ad Aa=some r) :
    Calls Tryz.prog 134 #[v2,I Aa] w0 λe w=>e=.returned (.bool (r))∧Ext [] w0 w:=by
 refine en (vs:=[_,_]) func134 z ntmps134 z λa k m=>?_;unfold Qp8 at h;refine wr (pN 1 k z λa k=>nn (wp_seq (wr (pN 1 k z λa k=>oE h λx6 Aj h=>cC k m call42 z (Qbn fu _ _ _  Aj) λw9 e a k m=>pN 1 k z λa k=>nn (cI h k z (λAi h=>?_) λAi h=>?_)))))
 · refine wr (pN 1 k z λa k=>nn (wp_ret (Qad ?_)));refine fS h k m z z
 refine wp_skip (Qaa ?_);refine wp_seq (wr (pN 2 k z λa k=>nn (wp_block (Qap (λn a w=>∃ (Ab:Int),K 34 [(0,v2),(1,I Aa),(10,I Aa),(11,I Ab)] a∧St [] w0 w []∧Qft fu Ad Aa n Ab=some r) ?_ ?_ fu _ _ ?_))))
 · rintro a w ⟨_,_,_,h⟩;exact nS h
 · rintro Al a Av ⟨Ab,k,m,h⟩;rw [Qft.eq_2] at h;unfold Ql7 at h;refine wr (pN 1 k z λa k=>nn (wp_seq (cI h k z (λAf h=>?_) λAf h=>?_)))
   · refine wp_skip (Qaa ?_);refine wp_seq (wp_block (wr (pN 2 k z λa k=>nn (wp_seq (wr (pN 3 k z λa k=>oE h λAw Ag h=>cC k m call213 z (Qr0 fu _ _ _ (m.r Ac) Ag) λAr e a k m=>pN 1 k z λa k=>nn (cI h k z (λAp h=>?_) λAp h=>?_)))))))
     · refine wr (pN 1 k z λa k=>nn (wp_ret (Qad (Qag (Qad (Qad (Qag (Qad ?_))))))));refine fS h k m z z
     refine wp_skip (Qaa ?_);refine wr (pN 2 k z λa k=>nn (wp_block (Qap (λn a w=>∃ (Ae:Int),K 34 [(0,v2),(1,I Aa),(5,I Ab),(10,I Aa),(11,I Ab),(19,I Aa),(20,I Ae)] a∧St [] w0 w []∧Qfu fu (Qft fu Ad Aa Al) Ad Aa Ab n Ae=some r) ?_ ?_ fu _ _ ?_)))
     · rintro a w ⟨_,_,_,h⟩;exact nS h
     · rintro Ay a Aq ⟨Ae,k,m,h⟩;rw [Qfu.eq_2] at h;unfold Qmn at h;refine wr (pN 1 k z λa k=>nn (wp_seq (cI h k z (λAm h=>?_) λAm h=>?_)))
       · refine wp_skip (Qaa ?_);refine wp_seq (wp_block (wr (pN 2 k z λa k=>nn (wr (pN 3 k z λa k=>oE h λAu Ak h=>cC k m call213 z (Qr0 fu _ _ _ (m.r Ac) Ak) λAx e a k m=>pN 3 k z λa k=>oE h λAs Ao h=>cC k m call213 z (Qr0 fu _ _ _ (m.r Ac) Ao) λAt e a k m=>sv k z (Jcw k underlying4 z z z) λa k=>nn (cI h k z (λAh h=>?_) λAh h=>?_))))))
         · refine wr (pN 1 k z λa k=>nn (wp_ret (Qag (Qad (Qad (Qag (Qag (Qad (Qad (Qag (Qad ?_)))))))))));refine fS h k m z z
         refine wp_skip (Qae (Qaa ?_));refine wp_region_lit (pN 2 k z λa k=>nn ?_);exact ⟨w64 (Ae+1),k.keep [0,1,5,10,11,19,20] z,m.sl [] z,h⟩
       refine wp_exit (Qaf (Qaf (Qaj (Qae (Qaa ?_)))));refine wp_region_lit (pN 2 k z λa k=>nn ?_);exact ⟨w64 (Ab+1),k.keep [0,1,10,11] z,m.sl [] z,h⟩
     exact ⟨0,k.keep [0,1,5,10,11,19,20] z,m.sl [] z,h⟩
   refine wp_exit (Qaf (Qaf (Qaj (Qaa ?_))));refine wr (pN 1 k z λa k=>nn (wp_ret (fS h k m z z)))
 exact ⟨0,k.keep [0,1,10,11] z,m.sl [] z,h⟩
theorem Qhn (fu:Nat) {w0:World} (x1:List Int) {v2:Value} {F3:List Nat} (Aa:ow w0 F3 [v2] x1) {r:List Int}
    (h:Qcl fu x1=some r) :
    Calls Tryz.prog 36 #[v2] w0 λe w=>∃ H:List Nat,e=.returned (.tuple #[])∧Ext F3 w0 w∧(∀ b∈H,b∈F3∨w0.heap.size≤b)∧ow w H [v2] r :=
  (Jb7 (λblk off cap zs w=>Tryz.slices_Sort_int blk off cap zs w) (λp cap w=>Tryz.slices_Sort_int_none p cap w) x1 Aa h).mono λe w ⟨h1,h2,h3⟩=>⟨_,h1,h2,λb hb=>.inl hb,h3⟩
theorem Q0r (fu:Nat) {w0:World} (x1:Item) (t2:Typ)  {r:Bool}
    (h:Qsj fu x1 t2=some r) :
    Calls Tryz.prog 136 #[.agg (Flat.e (x1)).toArray,.agg (Flat.e (t2)).toArray] w0 λe w=>e=.returned (.bool (r))∧Ext [] w0 w:=by
 refine en (vs:=[_,_]) func136 z ntmps136 z λa k m=>?_;unfold Qsj at h;refine wr (Qbg (cs:=[I x1.qQ,I x1.fW,I x1.fH,I x1.fD,I x1.fQ,I x1.fL,I x1.f0]) m k z z z z z z λb3 w5 a k m e Ag=>Qbg (cs:=[I t2.qQ,I t2.fW,I t2.fH,I t2.fD,I t2.ft,I t2.fQ,I t2.fK]) m k z z z z z z λb6 w9 a k m e Af=>pN 1 k z λa k=>nn ?_);refine Qc1 (λa w=>∃ (Aj:List Int) (Ak:Value) (Al:List Nat) (Ai:World) (Am:List Int) (Ah:Value) (Ao:List Nat) (Ap:World),K 57 [(2,pt b3),(3,pt b6),(5,Ak),(6,Ah)] a∧St [] w0 w [([b3],w5),([b6],w9),(Al,Ai),(Ao,Ap)]∧ow Ai Al [Ak] Aj∧ow Ap Ao [Ah] Am∧Qsr fu x1 t2 Aj Am=some r) ?_ ?_
 · rintro a Cn ⟨Aj,Ak,Al,Ai,Am,Ah,Ao,Ap,k,m,Bo,Bm,h⟩;unfold Qsr at h;refine wr (pN 1 k z λa k=>oE h λCh Cc h=>sC k call36 z (Qhn fu _ (m.v Bo 2 z) Cc) λCf Cj hR=>?_);obtain ⟨Ck,rfl,e,By,Ab⟩:=hR;refine ⟨_,z,λa k=>?_⟩;have m:=m.mut 2 z e _ (λb hb=>⟨By b hb,Enc.rd_lt (Enc.ow_rd Ab) b hb⟩) (Enc.ow_nd Ab);refine nn (wr (pN 1 k z λa k=>oE h λCt Bv h=>sC k call36 z (Qhn fu _ (m.v Bm 3 z) Bv) λCq Co hR=>?_));obtain ⟨Cs,rfl,e,Be,Aa⟩:=hR;refine ⟨_,z,λa k=>?_⟩;have m:=m.mut 3 z e _ (λb hb=>⟨Be b hb,Enc.rd_lt (Enc.ow_rd Aa) b hb⟩) (Enc.ow_nd Aa);refine nn (wp_seq (Qiw [] Qim m z λCd hMd=>?_));have m:=hMd;have s:=Ext.refl ([]:List Nat) Cd
   refine dM [0,3] 2 z k z s λa k=>oE h λBz Au h=>dT k 1 z z s (λw s=>Qak (Enc.ow_rd Ab) Au k Qg6 z z z) λa k=>dT k 2 z z s (λw s=>Qaq (Enc.ow_rd Ab) ((hMd.step s).a 2 z) Au 0 t13 k z z z z) λa k=>oE h λBp Ay h=>dT k 4 z z s (λw s=>Qak (Enc.ow_rd Aa) Ay k Qg6 z z z) λa k=>dT k 5 z z s (λw s=>Qaq (Enc.ow_rd Aa) ((hMd.step s).a 3 z) Ay 0 t13 k z z z z) λa k=>dM [6,7] 2 z k z s λa k=>Qam (decide (Bz≤Bp)) (λAc=>?_) (λAc=>?_)
   · have h:=Qax Ac h;refine rB k 32 z Ac λk=>dM [8,11] 2 z k z s λa k=>oE h λBn Aq h=>dT k 9 z z s (λw s=>Qak (Enc.ow_rd Ab) Aq k Qg6 z z z) λa k=>dT k 10 z z s (λw s=>Qaq (Enc.ow_rd Ab) ((hMd.step s).a 2 z) Aq 0 t13 k z z z z) λa k=>oE h λBg As h=>dT k 12 z z s (λw s=>Qak (Enc.ow_rd Aa) As k Qg6 z z z) λa k=>dT k 13 z z s (λw s=>Qaq (Enc.ow_rd Aa) ((hMd.step s).a 3 z) As 0 t13 k z z z z) λa k=>dM [14,15,16] 3 z k z s λa k=>Qam (decide (Bn≤Bg)) (λAd=>?_) (λAd=>?_)
     · have h:=Qax Ad h;refine rB k 41 z Ad λk=>dM [17,20] 2 z k z s λa k=>oE h λBf Az h=>dT k 18 z z s (λw s=>Qak (Enc.ow_rd Ab) Az k Qg6 z z z) λa k=>dT k 19 z z s (λw s=>Qaq (Enc.ow_rd Ab) ((hMd.step s).a 2 z) Az 0 t13 k z z z z) λa k=>oE h λBs At h=>dT k 21 z z s (λw s=>Qak (Enc.ow_rd Aa) At k Qg6 z z z) λa k=>dT k 22 z z s (λw s=>Qaq (Enc.ow_rd Aa) ((hMd.step s).a 3 z) At 0 t13 k z z z z) λa k=>dM [23,24,25] 3 z k z s λa k=>Qam (decide (Bf≤Bs)) (λAe=>?_) (λAe=>?_)
       · have h:=Qax Ae h;refine rB k 50 z Ae λk=>dF k 26 Qvk z s λa k=>dT k 27 z z s (λw s=>Qan t13 (r:=[]) (Ag.at ((hMd.step s).a 0 z) 4 1 z z z) k z z) λa k=>dF k 28 Qwl z s λa k=>dT k 29 z z s (λw s=>Qan t13 (r:=[]) (Af.at ((hMd.step s).a 1 z) 5 1 z z z) k z z) λa k=>dM [30,31,32] 3 z k z s λa k=>dD ?_;have k:=k.keep [4] z;refine (Qaa ?_);refine wp_ret (fS h k m z z)
       have h:=Qay Ae h;refine rB k 50 z Ae λk=>dM [26,27,28,29,30,31,32] 7 z k z s λa k=>dD ?_;have k:=k.keep [4] z;refine (Qaa ?_);refine wp_ret (fS h k m z z)
     have h:=Qay Ad h;refine rB k 41 z Ad λk=>dM [17,18,19,20,21,22,23,24,25,26,27,28,29,30,31,32] 16 z k z s λa k=>dD ?_;have k:=k.keep [4] z;refine (Qaa ?_);refine wp_ret (fS h k m z z)
   have h:=Qay Ac h;refine rB k 32 z Ac λk=>dM [8,9,10,11,12,13,14,15,16,17,18,19,20,21,22,23,24,25,26,27,28,29,30,31,32] 25 z k z s λa k=>dD ?_;have k:=k.keep [4] z;refine (Qaa ?_);refine wp_ret (fS h k m z z)
 refine Qiw [] Qim m z λCa hMd=>?_;have m:=hMd;have s:=Ext.refl ([]:List Nat) Ca;refine dF k 0 Qwt z s λa k=>dT k 1 z z s (λw s=>Qan t13 (r:=[]) (Ag.at ((hMd.step s).a 1 z) 1 1 z z z) k z z) λa k=>dF k 2 Qws z s λa k=>dT k 3 z z s (λw s=>Qan t13 (r:=[]) (Ag.at ((hMd.step s).a 1 z) 2 1 z z z) k z z) λa k=>dF k 4 Qvt z s λa k=>dT k 5 z z s (λw s=>Qan t13 (r:=[]) (Ag.at ((hMd.step s).a 1 z) 3 1 z z z) k z z) λa k=>?_;refine dF k 7 Qvw z s λa k=>dT k 8 z z s (λw s=>Qan t13 (r:=[]) (Af.at ((hMd.step s).a 0 z) 1 1 z z z) k z z) λa k=>dF k 9 Qu4 z s λa k=>dT k 10 z z s (λw s=>Qan t13 (r:=[]) (Af.at ((hMd.step s).a 0 z) 2 1 z z z) k z z) λa k=>dF k 11 Qvg z s λa k=>dT k 12 z z s (λw s=>Qan t13 (r:=[]) (Af.at ((hMd.step s).a 0 z) 3 1 z z z) k z z) λa k=>Qlc 6 13 (by kernel_rfl) z z ?_ ?_
 · refine Qdu (cs:=[I x1.fW,I x1.fH,I x1.fD]) (ps:=[(0,.tmp 8),(1,.tmp 10),(2,.tmp 12)]) Qb4 m k z z z z z z z (by decide) z (by exact fC z (fC z (fC z fN))) λAv Ba Ce a k m e Bb Bw=>?_;have Cl:=lo1 (Nat.le_trans s.size Bw);have Bt:=Qa5 Bb ([x1.fW,x1.fH,x1.fD]:List Int) z z z;refine ns s e λs=>?_;refine dM [14] 1 z k z s λa k=>dO 13 z (Qdu (cs:=[I t2.fW,I t2.fH,I t2.fD]) (ps:=[(0,.tmp 15),(1,.tmp 17),(2,.tmp 19)]) Qb4 m k z z z z z z z (by decide) z (by exact fC z (fC z (fC z fN))) λAw Bk Cg a k m e Bj Bx=>?_);have Cp:=lo1 (Nat.le_trans s.size Bx);have Cb:=Qa5 Bj ([t2.fW,t2.fH,t2.fD]:List Int) z z z;refine ns s e λs=>?_;refine dM [15] 1 z k z s λa k=>dD ((Qaa ?_));exact ⟨([x1.fW,x1.fH,x1.fD]:List Int),(.slice (some ⟨Av,0,none⟩) 3 3),[Av],Ba,([t2.fW,t2.fH,t2.fD]:List Int),(.slice (some ⟨Aw,0,none⟩) 3 3),[Aw],Bk,k.keep [2,3,5,6] z,m.sl [3,2,1,0] z,Bt,Cb,h⟩
 refine Qdu (cs:=[I t2.fW,I t2.fH,I t2.fD]) (ps:=[(0,.tmp 15),(1,.tmp 17),(2,.tmp 19)]) Qb4 m k z z z z z z z (by decide) z (by exact fC z (fC z (fC z fN))) λAx Bd Cr a k m e Bu Bl=>?_;have Cu:=lo1 (Nat.le_trans s.size Bl);have Bi:=Qa5 Bu ([t2.fW,t2.fH,t2.fD]:List Int) z z z;refine ns s e λs=>?_;refine dO 6 z (Qdu (cs:=[I x1.fW,I x1.fH,I x1.fD]) (ps:=[(0,.tmp 8),(1,.tmp 10),(2,.tmp 12)]) Qb4 m k z z z z z z z (by decide) z (by exact fC z (fC z (fC z fN))) λAr Bh Cm a k m e Bq Br=>?_);have Ci:=lo1 (Nat.le_trans s.size Br);have Bc:=Qa5 Bq ([x1.fW,x1.fH,x1.fD]:List Int) z z z;refine ns s e λs=>?_;refine dM [14,15] 2 z k z s λa k=>dD ((Qaa ?_));exact ⟨([x1.fW,x1.fH,x1.fD]:List Int),(.slice (some ⟨Ar,0,none⟩) 3 3),[Ar],Bh,([t2.fW,t2.fH,t2.fD]:List Int),(.slice (some ⟨Ax,0,none⟩) 3 3),[Ax],Bd,k.keep [2,3,5,6] z,m.sl [3,2,0,1] z,Bc,Bi,h⟩
theorem Q2c (fu:Nat) {w0:World} (x1:Item) (x2:Typ) {b3:Nat} (Aa:bx w0 b3 [I x2.qQ,I x2.fW,I x2.fH,I x2.fD,I x2.ft,I x2.fQ,I x2.fK] 90) {r:Bool}
    (h:Qqi fu x1 x2=some r) :
    Calls Tryz.prog 135 #[.agg (Flat.e (x1)).toArray,pt b3] w0 λe w=>e=.returned (.bool (r))∧Ext [] w0 w:=by
 refine en (vs:=[_,_]) func135 z ntmps135 z λa k m=>?_;unfold Qqi at h;refine wr (Qbg (cs:=[I x1.qQ,I x1.fW,I x1.fH,I x1.fD,I x1.fQ,I x1.fL,I x1.f0]) m k z z z z z z λb5 w7 a k m e Ab=>pN 1 k z λa k=>nn (wr (sv k z (rL Qug m 0 Ab 0 k z) λa k=>sv k z (Qde Qub (Aa.at (m.a00 Aa.lt1) 0 7 z z z) z k z z) λa k=>oE h λx8 Ac h=>cC k m call136 z (Q0r fu (x1:Item) (x2:Typ)  Ac) λAd e a k m=>pN 2 k z λa k=>nn (wp_ret (fS h k m z z)))))
theorem Q1l (fu:Nat) {w0:World} (t1:Typ) (x2:Pallet) {b3:Nat} (Aa:bx w0 b3 [I x2.fW,I x2.fD,I x2.fH,I x2.fQ] 25) {r:Bool}
    (h:Qpw fu t1 x2=some r) :
    Calls Tryz.prog 138 #[.agg (Flat.e (t1)).toArray,pt b3] w0 λe w=>e=.returned (.bool (r))∧Ext [] w0 w:=by
 refine en (vs:=[_,_]) func138 z ntmps138 z λa k m=>?_;unfold Qpw at h;refine wr (Qbg (cs:=[I t1.qQ,I t1.fW,I t1.fH,I t1.fD,I t1.ft,I t1.fQ,I t1.fK]) m k z z z z z z λb5 w7 a k m e Ae=>pN 1 k z λa k=>nn (wr (fl Qvw t13 m 0 Ae k z z λa k=>sv k z (Qhu Qwi k z z) λa k=>sv k z (Qan t13 (r:=[]) (Aa.at (m.a00 Aa.lt1) 0 1 z z z) k z z) λa k=>pN 2 k z λa k=>Qam (decide (t1.fW>x2.fW)) (λAb=>?_) (λAb=>?_))))
 · have h:=Qax Ab h;refine rB k 9 z Ab λk=>pN 24 k z λa k=>?_;have k:=k.keep [3] z;refine nn (wp_ret (fS h k m z z))
 have h:=Qay Ab h;refine rB k 9 z Ab λk=>fl Qvg t13 m 0 Ae k z z λa k=>sv k z (Qhu Qu2 k z z) λa k=>sv k z (Qan t13 (r:=[]) (Aa.at (m.a00 Aa.lt1) 1 1 z z z) k z z) λa k=>pN 3 k z λa k=>Qam (decide (t1.fD>x2.fD)) (λAd=>?_) (λAd=>?_)
 · have h:=Qax Ad h;refine rB k 16 z Ad λk=>pN 17 k z λa k=>?_;have k:=k.keep [3] z;refine nn (wp_ret (fS h k m z z))
 have h:=Qay Ad h;refine rB k 16 z Ad λk=>fl Qu4 t13 m 0 Ae k z z λa k=>sv k z (Qhu Qu6 k z z) λa k=>sv k z (Qan t13 (r:=[]) (Aa.at (m.a00 Aa.lt1) 2 1 z z z) k z z) λa k=>pN 3 k z λa k=>Qam (decide (t1.fH>x2.fH)) (λAc=>?_) (λAc=>?_)
 · have h:=Qax Ac h;refine rB k 23 z Ac λk=>pN 10 k z λa k=>?_;have k:=k.keep [3] z;refine nn (wp_ret (fS h k m z z))
 have h:=Qay Ac h;refine rB k 23 z Ac λk=>fl Q20 t13 m 0 Ae k z z λa k=>fl Qwl t13 m 0 Ae k z z λa k=>pN 1 k z λa k=>sv k z (Qhu Qs0 k z z) λa k=>sv k z (Qan t13 (r:=[]) (Aa.at (m.a00 Aa.lt1) 3 1 z z z) k z z) λa k=>pN 3 k z λa k=>?_;have k:=k.keep [3] z;refine nn (wp_ret (fS h k m z z))
theorem Q4t (fu:Nat) {w0:World} (r1:Request) {Af:List Value} {F3:List Nat} (Az:rd w0 F3 Af r1) {r:Int}
    (h:Qs4 fu r1=some r) :
    Calls Tryz.prog 62 #[.agg Af.toArray] w0 λe w=>e=.returned (I r)∧Ext [] w0 w:=by
 refine en (vs:=[_]) func62 z ntmps62 z λa k m=>?_;obtain ⟨v5,F6,v7,F8,v9,Bt,rfl,rfl,Ad,Aa,Ac⟩:=Az;unfold Qs4 at h;refine wr (Qbg (cs:=(cR r1 v5 v7 v9)) m k z z z z z z λBc Bp a k m e Ab=>pN 1 k z λa k=>nn (wr (sv k z (rL Qfl m 0 Ab 0 k z) λa k=>oE h λAe Ar h=>cC k m call131 z (Qtw fu _ (Qah (m.r Ad) (m.r Aa) (m.r Ac)) Ar) λBf e a k m=>?_)));refine pN 3 k z λa k=>Qar (cs:=[I 0,I 0,I 0,I 0,I 0,I 0,I 0]) m k zeroValue90 z z z z z λAx Be a k m e Ag=>sT (cs':=[I Ae.1.qQ,I Ae.1.fW,I Ae.1.fH,I Ae.1.fD,I Ae.1.ft,I Ae.1.fQ,I Ae.1.fK]) sizeOf90 m 0 Ag 0 k z z λBd a k e m Aw=>pN 1 k z λa k=>nn (wr (sv k z (Qhu Qt3 k z z) λa k=>sv k z (rL Qxu m 1 Ab 1 k z) λa k=>Qar (cs:=[I 0,I 0,I 0,I 0]) m k zeroValue25 z z z z z λAk Bh a k m e At=>?_))
 refine sT (cs':=[I r1.fJ.fW,I r1.fJ.fD,I r1.fJ.fH,I r1.fJ.fQ]) sizeOf25 m 0 At 0 k z z λBi a k e m Ap=>nn (wp_seq (wp_block (wr (sv k z (rL Qfl m 2 Ab 0 k z) λa k=>oE h λBb As h=>cC k m call132 z (Qz5 fu _ (Qah (m.r Ad) (m.r Aa) (m.r Ac)) As) λBo e a k m=>pN 2 k z λa k=>nn ?_))));refine cI h k z (λAj h=>?_) λAj h=>?_
 · refine wr (pN 1 k z λa k=>nn (wp_ret (Qag (Qad ?_))));refine fS h k m z z
 refine wr (sv k z (rL Qfl m 2 Ab 0 k z) λa k=>oE h λBq Am h=>cC k m call133 z (Q18 fu _ (Qah (m.r Ad) (m.r Aa) (m.r Ac)) Am) λBm e a k m=>pN 2 k z λa k=>nn (cI h k z (λAl h=>?_) λAl h=>?_))
 · refine wr (pN 1 k z λa k=>nn (wp_ret (Qag (Qad ?_))));refine fS h k m z z
 refine wr (fl Qoq Q2s m 2 Ab k z z λa k=>fl Quc t13 m 2 Ab k z z λa k=>oE h λBk Ai h=>cC k m call134 z (Q2k fu _ _ (m.r Ad) Ai) λBg e a k m=>pN 2 k z λa k=>?_);have k:=k.keep [1,3,5,21] z;refine nn (cI h k z (λBa h=>?_) λBa h=>?_)
 · refine wr (pN 1 k z λa k=>nn (wp_ret (Qag (Qad ?_))));refine fS h k m z z
 refine wr (fl Qhm Qwn m 2 Ab k z z λa k=>pN 1 k z λa k=>oE h λBw Ay h=>cC k m call98 z (Qcw fu _ _ (m.r Ac) ⟨135,[pt Ax],z,call135,λw Br Bj r e Aq hx=>by subst Aq; have m:=m.step e; exact Q2c fu _ _ (Aw.agr (m.a 1 rfl) (by simp)) hx⟩ Ay) λBn e a k m=>pN 1 k rfl λa k=>nn (cI h k rfl (λAh h=>?_) λAh h=>?_))
 · refine wr (pN 1 k z λa k=>nn (wp_ret (Qag (Qad ?_))));refine fS h k m z z
 refine wr (fl Qey Qvy m 2 Ab k z z λa k=>pN 1 k z λa k=>oE h λBv Au h=>cC k m call137 z (Qd9 fu _ _ (m.r Aa) ⟨138,[pt Ak],z,call138,λw Bu Bl r e Ao hx=>by subst Ao; have m:=m.step e; exact Q1l fu _ _ (Ap.agr (m.a 0 rfl) (by simp)) hx⟩ Au) λBs e a k m=>pN 1 k rfl λa k=>nn (cI h k rfl (λAv h=>?_) λAv h=>?_))
 · refine wr (pN 1 k z λa k=>nn (wp_ret (Qag (Qad ?_))));refine fS h k m z z
 refine wp_skip (Qae (Qaa ?_));refine wr (pN 1 k z λa k=>nn (wp_ret (fS h k m z z)))
theorem Qiy (fu:Nat) {w0:World} (r1:Request) {Ab:List Value} {F3:List Nat} (Ae:rd w0 F3 Ab r1) {r:Bool}
    (h:Qfz fu r1=some r) :
    Calls Tryz.prog 21 #[.agg Ab.toArray] w0 λe w=>e=.returned (.bool (r))∧Ext [] w0 w:=by
 refine en (vs:=[_]) func21 z ntmps21 z λa k m=>?_;obtain ⟨v5,F6,v7,F8,v9,Aj,rfl,rfl,Aa,Ac,Ad⟩:=Ae;unfold Qfz at h;refine wr (Qbg (cs:=(cR r1 v5 v7 v9)) m k z z z z z z λAh Ak a k m e Ag=>pN 1 k z λa k=>nn (wr (sv k z (rL Qfl m 0 Ag 0 k z) λa k=>oE h λAl Af h=>cC k m call62 z (Q4t fu _ (Qah (m.r Aa) (m.r Ac) (m.r Ad)) Af) λAi e a k m=>?_)));refine pN 2 k z λa k=>nn (wp_ret (fS h k m z z))
theorem Qio (fu:Nat) {w0:World} (Ac:List Int) {v2:Value} {F3:List Nat} (Aa:rd w0 F3 [v2] Ac) {r:(List Int)}
    (h:Qdc fu Ac=some r) :
    Calls Tryz.prog 217 #[v2] w0 λe w=>∃ (v0:Value) (G0:List Nat),e=.returned (v0)∧Ext [] w0 w∧ow w G0 [v0] r∧(∀ b∈G0,w0.heap.size≤b):=by
 refine en (vs:=[_]) func217 z ntmps217 z λa k m=>?_;unfold Qdc at h;refine wr (pN 1 k z λa k=>nn (wp_seq (wr (pN 1 k z λa k=>?_))));obtain ⟨Ah,Al,Ak⟩:=Ji2 Aa;refine sv k z (Ak k underlying41 z z z) λa k=>nn (Jeh (b:=Ah) k z (λAb=>?_) (λAb=>?_))
 · have Af:=Al Ab;rw [Af] at h;have h:some (([]:List Int))=some r:=h;refine wr (pN 1 k z λa k=>nn (wp_ret (Qad ?_)));cases h;exact Qct k z (RV.tmp k z) ⟨_,[],z,m.ext,(Qe1 _),(by simp)⟩
 refine wp_skip (Qaa ?_);refine wr (sB (cs:=[]) (ps:=[]) Qb4 m k z (by exact fN) λAr Am Aq a k m e Ag=>?_);have Ad:=Qa5 Ag ([]:List Int) z z z;refine pN 1 k z λa k=>oE h λAo Ae h=>Qfv Ae Qb4 z m 0 Ad (News.rd (m.r Aa)) z z k z z z z z z z λAp Ai As a k e m Aj=>pN 1 k z λa k=>nn (wp_ret ?_);cases h;exact Qct k z (RV.tmp k z) ⟨_,Ai,z,m.ext,(m.v Aj 0 z),(m.fresh 0 z)⟩
theorem Quh (fu:Nat) {w0:World} (x1:List Int) {v2:Value} {F3:List Nat} (Aa:ow w0 F3 [v2] x1) {r:List Int}
    (h:Qkc fu x1=some r) :
    Calls Tryz.prog 218 #[v2] w0 λe w=>∃ (v0:Value) (G0:List Nat),e=.returned v0∧Ext F3 w0 w∧ow w G0 [v0] r∧(∀ b∈G0,b∈F3∨w0.heap.size≤b) :=
  Q4u (λblk off cap zs w=>Tryz.slices_Compact_int blk off cap zs w) (λp cap w=>Tryz.slices_Compact_int_empty p cap w) x1 Aa h
theorem Qyx (fu:Nat) {w0:World} (Ad:List Int) {v2:Value} {F3:List Nat} (Ae:rd w0 F3 [v2] Ad) {r:(List Int)}
    (h:Qk0 fu Ad=some r) :
    Calls Tryz.prog 141 #[v2] w0 λe w=>∃ (v0:Value) (G0:List Nat),e=.returned (v0)∧Ext [] w0 w∧ow w G0 [v0] r∧(∀ b∈G0,w0.heap.size≤b):=by
 refine en (vs:=[_]) func141 z ntmps141 z λa k m=>?_;unfold Qk0 at h;refine wr (pN 1 k z λa k=>nn (wr (pN 1 k z λa k=>oE h λx5 Ah h=>sC k call217 z (Qio fu _ (m.r Ae) Ah) λe7 w9 hR=>?_)));obtain ⟨At,Am,rfl,e,Ac,Ag⟩:=hR;refine ⟨_,z,λa k=>?_⟩;have m:=m.nw e Ag Ac;refine pN 1 k z λa k=>nn (wr (pN 1 k z λa k=>oE h λAo Ai h=>sC k call36 z (Qhn fu _ (m.v Ac 0 z) Ai) λAu Aq hR=>?_));obtain ⟨As,rfl,e,Al,Ab⟩:=hR;refine ⟨_,z,λa k=>?_⟩;have m:=m.mut 0 z e _ (λb hb=>⟨Al b hb,Enc.rd_lt (Enc.ow_rd Ab) b hb⟩) (Enc.ow_nd Ab);refine nn (wr (pN 1 k z λa k=>oE h λAw Af h=>sC k call218 z (Quh fu _ (m.v Ab 0 z) Af) λAp Av hR=>?_));obtain ⟨Ar,Aj,rfl,e,Aa,Ak⟩:=hR;refine ⟨_,z,λa k=>?_⟩;have m:=m.mut 0 z e _ (λb hb=>⟨Ak b hb,Enc.rd_lt (Enc.ow_rd Aa) b hb⟩) (Enc.ow_nd Aa);refine pN 1 k z λa k=>nn (wp_ret ?_);cases h;exact Qct k z (RV.tmp k z) ⟨_,Aj,z,m.ext,(m.v Aa 0 z),(m.fresh 0 z)⟩
theorem Q1x (fu:Nat) {w0:World} (r1:Request) {Ao:List Value} {F3:List Nat} (Be:rd w0 F3 Ao r1) {r:(List Int)}
    (h:Qqb fu r1=some r) :
    Calls Tryz.prog 67 #[.agg Ao.toArray] w0 λe w=>∃ (v0:Value) (G0:List Nat),e=.returned (v0)∧Ext [] w0 w∧ow w G0 [v0] r∧(∀ b∈G0,w0.heap.size≤b):=by
 refine en (vs:=[_]) func67 z ntmps67 z λa k m=>?_;obtain ⟨v5,F6,v7,F8,v9,Bz,rfl,rfl,Ap,Ai,Ab⟩:=Be;unfold Qqb at h;refine wr (Qbg (cs:=(cR r1 v5 v7 v9)) m k z z z z z z λBl Ca a k m e Aj=>pN 1 k z λa k=>nn (wp_seq (wr (sv k z (rL Qfl m 0 Aj 0 k z) λa k=>oE h λCb Bb h=>cC k m call21 z (Qiy fu _ (Qah (m.r Ap) (m.r Ai) (m.r Ab)) Bb) λBt e a k m=>?_))));refine pN 1 k z λa k=>nn (cI h k z (λBi h=>?_) λBi h=>?_)
 · refine wr (pN 1 k z λa k=>nn (wp_ret (Qad ?_)));cases h;exact Qct k z (RV.tmp k z) ⟨_,[],z,m.ext,(Qe1 _),(by simp)⟩
 refine wp_skip (Qaa ?_);refine wr (sB (cs:=[]) (ps:=[]) Qb4 m k z (by exact fN) λAk Ar Bo a k m e As=>?_);have Au:=Qa5 As ([]:List Int) z z z;refine pN 1 k z λa k=>nn (wp_seq (wr (fl Qhm Qwn m 1 Aj k z z λa k=>sv k z (Qa2 (α:=Item) Ab k underlying28 z z) λa k=>pN 1 k z λa k=>nn (wp_block (Qap (λn a w=>∃ (Ag:List Int) (Af:Value) (Ae:List Nat) (Ad:World) (Ac:Int),K 25 [(3,Af),(11,v9),(12,I (r1.fU.length:Int)),(13,I Ac)] a∧St [] w0 w [(Ae,Ad)]∧ow Ad Ae [Af] Ag∧Qha fu r1 n Ag Ac=some r) ?_ ?_ fu _ _ ?_)))))
 · rintro a w ⟨_,_,_,_,_,_,_,_,h⟩;exact nS h
 · rintro Bv a Bk ⟨Ag,Af,Ae,Ad,Ac,k,m,Aq,h⟩;rw [Qha.eq_2] at h;unfold Ql1 at h;refine wr (pN 1 k z λa k=>nn (wp_seq (cI h k z (λAv h=>?_) λAv h=>?_)))
   · refine wp_skip (Qaa ?_);refine wp_seq (wp_block (wr (oE h λAa Al h=>sv k z (Qak Ab Al k Q0d z z z) λa k=>sv k z (Qis Ab (m.a00 (Enc.rd_lt Ab)) Al Qug k z z) λa k=>Qar (cs:=[I 0,I 0,I 0,I 0,I 0,I 0,I 0]) m k zeroValue113 z z z z z λBx By a k m e Bc=>sT (cs':=[I Aa.qQ,I Aa.fW,I Aa.fH,I Aa.fD,I Aa.fQ,I Aa.fL,I Aa.f0]) sizeOf113 m 0 Bc 0 k z z λBm a k e m Bd=>nn (wp_region_lit (pN 1 k z λa k=>fl Quj t13 m 0 Bd k z z λa k=>?_)))));refine sB (cs:=[I Aa.fL]) (ps:=[(0,.tmp 19)]) Qb4 m k z (by exact fC z fN) λBs Bu Bp a k m e Ax=>?_;have Aw:=Qa5 Ax ([Aa.fL]:List Int) z z z;refine oE h λBg Bj h=>Qfv Bj Qb4 z m 2 Aq (News.rd (m.q Aw 0 z)) z z k z z z z z z z λAz Ay Ba a k e m At=>pN 1 k z λa k=>wpList_nil (Qae (Qaa ?_));refine wp_region_lit (pN 2 k z λa k=>nn ?_);exact ⟨Bg,Az,Ay,Ba,w64 (Ac+1),k.keep [3,11,12,13] z,m.sl [2] z,At,h⟩
   refine wp_exit (Qaf (Qaf (Qaj (Qaa ?_))));refine wr (pN 1 k z λa k=>oE h λBn Bh h=>sC k call141 z (Qyx fu _ (m.q Aq 0 z) Bh) λBq Br hR=>?_);obtain ⟨Bw,Am,rfl,e,Ah,Bf⟩:=hR;refine ⟨_,z,λa k=>?_⟩;have m:=m.nw e Bf Ah;refine pN 1 k z λa k=>nn (wp_ret ?_);cases h;exact Qct k z (RV.tmp k z) ⟨_,Am,z,m.ext,(m.v Ah 0 z),(m.fresh 0 z)⟩
 exact ⟨([]:List Int),(.slice (some ⟨Ak,0,none⟩) 0 0),[Ak],Ar,0,k.keep [3,11,12,13] z,m.sl [0] z,Au,h⟩
theorem Q3l (fu:Nat) {w0:World} (Ac:List Pair) (a5:Int) (b6:Int) {v2:Value} {F3:List Nat} (Ab:rd w0 F3 [v2] Ac) {r:Bool}
    (h:Qry fu Ac a5 b6=some r) :
    Calls Tryz.prog 145 #[v2,I a5,I b6] w0 λe w=>e=.returned (.bool (r))∧Ext [] w0 w:=by
 refine en (vs:=[_,_,_]) func145 z ntmps145 z λa k m=>?_;unfold Qry at h;refine wr (pN 1 k z λa k=>nn (wr (pN 3 k z λa k=>oE h λx7 Ae h=>cC k m call213 z (Qr0 fu _ _ _ (m.r Ab) Ae) λAf e a k m=>pN 1 k z λa k=>Qam (x7) (λAa=>?_) (λAa=>?_))))
 · have h:=Qax Aa h;refine rB k 11 z Aa λk=>pN 3 k z λa k=>oE h λAg Ad h=>cC k m call213 z (Qr0 fu _ _ _ (m.r Ab) Ad) λAh e a k m=>pN 2 k z λa k=>nn (wp_ret (fS h k m z z))
 have h:=Qay Aa h;refine rB k 11 z Aa λk=>pN 6 k z λa k=>nn (wp_ret (fS h k m z z))
theorem Qyc (fu:Nat) {w0:World} (x1:Int) (x2:List Pair) (x8:Int) {v5:Value} {F6:List Nat} {b3:Nat} (Aa:bx w0 b3 [v5] 26) (Ac:rd w0 F6 [v5] x2) {b9:Nat} (Ab:bx w0 b9 [I x8] 3) {r:Bool}
    (h:Qkl fu x1 x2 x8=some r) :
    Calls Tryz.prog 144 #[I x1,pt b3,pt b9] w0 λe w=>e=.returned (.bool (r))∧Ext [] w0 w:=by
 refine en (vs:=[_,_,_]) func144 z ntmps144 z λa k m=>?_;unfold Qkl at h;refine wr (pN 1 k z λa k=>nn (wr (sv k z (Qan Q2s (r:=[]) (Aa.at (m.a00 Aa.lt1) 0 1 z z z) k z z) λa k=>sv k z (Qan t13 (r:=[]) (Ab.at (m.a00 Ab.lt1) 0 1 z z z) k z z) λa k=>pN 1 k z λa k=>oE h λAf Ad h=>cC k m call145 z (Q3l fu _ _ _ (m.r Ac) Ad) λAe e a k m=>pN 2 k z λa k=>nn (wp_ret (fS h k m z z)))))
theorem Qpu (fu:Nat) {w0:World} (Ab:List Int) (f5:Int→Option Bool) {v2:Value} {F3:List Nat} (Aa:rd w0 F3 [v2] Ab) {v6:Value} (Ai:Qvf Tryz.prog w0 v6 f5) {r:Int}
    (h:Qdq fu Ab f5=some r) :
    Calls Tryz.prog 107 #[v2,v6] w0 λe w=>e=.returned (I r)∧Ext [] w0 w:=by
 refine en (vs:=[_,_]) func107 z ntmps107 z λa k m=>?_;obtain ⟨Ae,Ak,rfl,Af,Ah⟩:=Ai;unfold Qdq at h;refine wr (pN 1 k z λa k=>nn (wp_seq (wr (pN 1 k z λa k=>sv k z (Qa2 (α:=Int) Aa k underlying41 z z) λa k=>pN 1 k z λa k=>nn (wp_block (Qap (λn a w=>∃ (Ac:Int),K 19 [(0,v2),(1,(.func (.func Ae) #[] Ak.toArray)),(7,I (Ab.length:Int)),(8,I Ac)] a∧St [] w0 w []∧Qcg fu Ab f5 n Ac=some r) ?_ ?_ fu _ _ ?_))))))
 · rintro a w ⟨_,_,_,h⟩;exact nS h
 · rintro Ar a Ap ⟨Ac,k,m,h⟩;rw [Qcg.eq_2] at h;unfold Qes at h;refine wr (pN 1 k z λa k=>nn (wp_seq (cI h k z (λAj h=>?_) λAj h=>?_)))
   · refine wp_skip (Qaa ?_);refine wp_seq (wp_block (wr (pN 2 k z λa k=>nn (wr (pN 3 k z λa k=>oE h λAm Ad h=>sv k z (Qak Aa Ad k Qg6 z z z) λa k=>sv k z (Qaq Aa (m.a00 (Enc.rd_lt Aa)) Ad 0 t13 k z z z z) λa k=>oE h λAo Ag h=>Qtt k Af z z z z z z (Ah _ _ _ _ m.ext z Ag) λAq As hR=>?_)))));obtain ⟨rfl,e⟩:=hR;refine ⟨_,z,λa k=>?_⟩;have m:=m.step e;refine nn (cI h k z (λAl h=>?_) λAl h=>?_)
     · refine wr (pN 2 k z λa k=>nn (wp_ret (Qag (Qad (Qad (Qag (Qad ?_)))))));refine fS h k m z z
     refine wp_skip (Qae (Qaa ?_));refine wp_region_lit (pN 2 k z λa k=>nn ?_);exact ⟨w64 (Ac+1),k.keep [0,1,7,8] z,m.sl [] z,h⟩
   refine wp_exit (Qaf (Qaf (Qaj (Qaa ?_))));refine wr (pN 1 k z λa k=>nn (wp_ret (fS h k m z z)))
 exact ⟨0,k.keep [0,1,7,8] z,m.sl [] z,h⟩
theorem Qmx (fu:Nat) {w0:World} (Ab:List Int) (f5:Int→Option Bool) {v2:Value} {F3:List Nat} (Aa:rd w0 F3 [v2] Ab) {v6:Value} (Ag:Qvf Tryz.prog w0 v6 f5) {r:Bool}
    (h:Qcz fu Ab f5=some r) :
    Calls Tryz.prog 105 #[v2,v6] w0 λe w=>e=.returned (.bool (r))∧Ext [] w0 w:=by
 refine en (vs:=[_,_]) func105 z ntmps105 z λa k m=>?_;obtain ⟨Aj,Ak,rfl,Ad,Af⟩:=Ag;unfold Qcz at h;refine wr (pN 1 k z λa k=>nn (wr (pN 2 k z λa k=>oE h λAl Ah h=>cC k m call107 z (Qpu fu _ _ (m.r Aa) ⟨_,_,z,Ad,λw Ae Ac r e=>Af w Ae Ac r (m.ext.trans e (by simp))⟩ Ah) λAi e a k m=>pN 2 k z λa k=>nn (wp_ret (fS h k m z z)))))
theorem Qz6 (fu:Nat) {w0:World} (l1:List Int) (x5:List Pair) (Ad:Int) {v2:Value} {F3:List Nat} (Ac:rd w0 F3 [v2] l1) {v8:Value} {F9:List Nat} {b6:Nat} (Af:bx w0 b6 [v8] 26) (Ae:rd w0 F9 [v8] x5) {Aa:Nat} (Ab:bx w0 Aa [I Ad] 3) {r:Bool}
    (h:Qok fu l1 x5 Ad=some r) :
    Calls Tryz.prog 143 #[v2,pt b6,pt Aa] w0 λe w=>e=.returned (.bool (r))∧Ext [] w0 w:=by
 refine en (vs:=[_,_,_]) func143 z ntmps143 z λa k m=>?_;unfold Qok at h;refine wr (pN 1 k z λa k=>nn (wr (pN 2 k z λa k=>oE h λAl Ag h=>cC k m call105 z (Qmx fu _ _ (m.r Ac) ⟨144,[pt b6,pt Aa],z,call144,λw Aj Ak r e Ah hx=>by subst Ah; have m:=m.step e; exact Qyc fu _ _ _ (Af.agr (m.a00 Af.lt1) (by simp)) (m.r Ae) (Ab.agr (m.a00 Ab.lt1) (by simp)) hx⟩ Ag) λAi e a k m=>pN 2 k rfl λa k=>nn (wp_ret (fS h k m rfl rfl)))))
theorem Qod (fu:Nat) {w0:World} (Aa:List (List Int)) (f5:(List Int)→Option Bool) {v2:Value} {F3:List Nat} (Ac:rd w0 F3 [v2] Aa) {v6:Value} (Am:Qvf Tryz.prog w0 v6 f5) {r:Int}
    (h:Qdi fu Aa f5=some r) :
    Calls Tryz.prog 142 #[v2,v6] w0 λe w=>e=.returned (I r)∧Ext [] w0 w:=by
 refine en (vs:=[_,_]) func142 z ntmps142 z λa k m=>?_;obtain ⟨Ai,Aj,rfl,Ak,Aq⟩:=Am;unfold Qdi at h;refine wr (pN 1 k z λa k=>nn (wp_seq (wr (pN 1 k z λa k=>sv k z (Qa2 (α:=List Int) Ac k underlying52 z z) λa k=>pN 1 k z λa k=>nn (wp_block (Qap (λn a w=>∃ (Ab:Int),K 19 [(0,v2),(1,(.func (.func Ai) #[] Aj.toArray)),(7,I (Aa.length:Int)),(8,I Ab)] a∧St [] w0 w []∧Qb5 fu Aa f5 n Ab=some r) ?_ ?_ fu _ _ ?_))))))
 · rintro a w ⟨_,_,_,h⟩;exact nS h
 · rintro Au a As ⟨Ab,k,m,h⟩;rw [Qb5.eq_2] at h;unfold Qei at h;refine wr (pN 1 k z λa k=>nn (wp_seq (cI h k z (λAg h=>?_) λAg h=>?_)))
   · refine wp_skip (Qaa ?_);refine wp_seq (wp_block (wr (pN 2 k z λa k=>nn (wr (pN 3 k z λa k=>oE h λAz Ae h=>sv k z (Qak Ac Ae k Qyb z z z) λa k=>?_)))));obtain ⟨Ax,Ap,Ay,Ad,Ah,Ao⟩:=Qa6 Ac (Qal Ae).2.2;obtain ⟨At,rfl⟩:∃ v,Ap=[v]:=by obtain ⟨_,_,hq,_⟩:=Ad; exact ⟨_,hq⟩
     refine sv k z (Qan Qr1 (Ah.agr (m.a00 (Enc.rd_lt Ac)) Ao) k z z) λa k=>oE h λAw Af h=>Qtt k Ak z z z z z z (Aq _ _ _ _ m.ext ⟨_,(m.r Ad)⟩ Af) λAv Ar hR=>?_;obtain ⟨rfl,e⟩:=hR;refine ⟨_,z,λa k=>?_⟩;have m:=m.step e;refine nn (cI h k z (λAl h=>?_) λAl h=>?_)
     · refine wr (pN 2 k z λa k=>nn (wp_ret (Qag (Qad (Qad (Qag (Qad ?_)))))));refine fS h k m z z
     refine wp_skip (Qae (Qaa ?_));refine wp_region_lit (pN 2 k z λa k=>nn ?_);exact ⟨w64 (Ab+1),k.keep [0,1,7,8] z,m.sl [] z,h⟩
   refine wp_exit (Qaf (Qaf (Qaj (Qaa ?_))));refine wr (pN 1 k z λa k=>nn (wp_ret (fS h k m z z)))
 exact ⟨0,k.keep [0,1,7,8] z,m.sl [] z,h⟩
theorem Q3m (fu:Nat) {w0:World} (Am:List Pair) (Bc:List Int) {v2:Value} {F3:List Nat} (Av:rd w0 F3 [v2] Am) {v6:Value} {F7:List Nat} (Bl:rd w0 F7 [v6] Bc) {r:(List (List Int))}
    (h:Qrr fu Am Bc=some r) :
    Calls Tryz.prog 66 #[v2,v6] w0 λe w=>∃ (v0:Value) (G0:List Nat),e=.returned (v0)∧Ext [] w0 w∧ow w G0 [v0] r∧(∀ b∈G0,w0.heap.size≤b):=by
 refine en (vs:=[_,_]) func66 z ntmps66 z λa k m=>?_;unfold Qrr at h;refine wr (Qbg (cs:=[v2]) m k z z z z z (Qrb Av) λb9 Al a k m e Ch=>pN 1 k z λa k=>nn (wr (sB (cs:=[]) (ps:=[]) Qzs m k z (by exact fN) λBh Bp Em a k m e Cn=>?_)));have De:=Qs9 (α:=List Int) Cn;refine pN 1 k z λa k=>nn (wp_seq (wr (pN 1 k z λa k=>oE h λAr Eb h=>sC k call141 z (Qyx fu _ (m.r Bl) Eb) λGa At hR=>?_)));obtain ⟨Bj,Ai,rfl,e,Ah,Dm⟩:=hR;refine ⟨_,z,λa k=>?_⟩;have m:=m.nw e Dm Ah;refine sv k z (Qa2 (α:=Int) (Enc.ow_rd Ah) k underlying41 z z) λa k=>pN 1 k z λa k=>nn (wp_block (Qap (λn a w=>∃ (Af:List (List Int)) (Ag:Value) (Ab:List Nat) (Aq:World) (Ae:Int),K 42 [(2,pt b9),(5,Ag),(11,Bj),(12,I (Ar.length:Int)),(13,I Ae)] a∧St [] w0 w [([b9],Al),(Ai,At),(Ab,Aq)]∧ow Aq Ab [Ag] Af∧Qfe fu Am Ar n Af Ae=some r) ?_ ?_ fu _ _ ?_))
 · rintro a w ⟨_,_,_,_,_,_,_,_,h⟩;exact nS h
 · rintro Do a Gf ⟨Af,Ag,Ab,Aq,Ae,k,m,Aa,h⟩;rw [Qfe.eq_2] at h;unfold Qnq at h;refine wr (pN 1 k z λa k=>nn (wp_seq (cI h k z (λCz h=>?_) λCz h=>?_)))
   · refine wp_skip (Qaa ?_);refine Qc1 (λa w=>∃ (Ao:List (List Int)) (Ak:Value) (As:List Nat) (Ap:World),K 42 [(2,pt b9),(5,Ak),(11,Bj),(12,I (Ar.length:Int)),(13,I Ae)] a∧St [] w0 w [([b9],Al),(Ai,At),(As,Ap)]∧ow Ap As [Ak] Ao∧Qit fu (Qfe fu Am Ar Do) Ae Ao=some r) ?_ ?_
     · rintro a Fz ⟨Ao,Ak,As,Ap,k,m,Br,h⟩;unfold Qit at h;refine wp_region_lit (pN 2 k z λa k=>nn ?_);exact ⟨Ao,Ak,As,Ap,w64 (Ae+1),k.keep [2,5,11,12,13] z,m.sl [0,1,2] z,Br,h⟩
     refine wp_block (wr (oE h λAd Bd h=>sv k z (Qak (Enc.ow_rd Ah) Bd k Qg6 z z z) λa k=>sv k z (Qaq (Enc.ow_rd Ah) (m.a 1 z) Bd 0 t13 k z z z z) λa k=>Qar (cs:=[I 0]) m k zeroValue3 z z z z z λAx Fg a k m e Dn=>sT (cs':=[I Ad]) sizeOf3 m 0 Dn 0 k z z λBi a k e m Aj=>nn (wp_seq (wr (sv k z (Qua t13 m 0 Aj 0 k z z z z z) λa k=>oE h λFr Cw h=>cC k m call42 z (Qbn fu _ _ _  Cw) λEg e a k m=>pN 1 k z λa k=>nn (cI h k z (λEe h=>?_) λEe h=>?_))))))
     · refine wp_exit (Qaf (Qaj (Qaa ?_)));exact ⟨Af,Ag,Ab,Aq,k.keep [2,5,11,12,13] z,m.sl [1,2,3] z,Aa,h⟩
     refine wp_skip (Qaa ?_);refine wr (pN 2 k z λa k=>oE h λBb Cp h=>cC k m call142 z (Qod fu _ _ (m.q Aa 3 z) ⟨143,[pt b9,pt Ax],z,call143,λw Ft Ff r e Aw hx=>by obtain ⟨_,Aw⟩:=Aw; have m:=m.step e; exact Qz6 fu _ _ _ Aw (m.y Ch 1 z) (m.r Av) (m.y Aj 0 z) hx⟩ Cp) λEs e a k m=>pN 1 k z λa k=>nn (wr (pN 2 k z λa k=>nn (cI h k z (λEc h=>?_) λEc h=>?_))))
     · refine wp_region_lit (pN 1 k z λa k=>sv k z (Qua t13 m 0 Aj 0 k z z z z z) λa k=>sB (cs:=[I Ad]) (ps:=[(0,.tmp 26)]) Qb4 m k z (by exact fC z fN) λBg Eh Fc a k m e Dt=>?_);have Az:=Qa5 Dt ([Ad]:List Int) z z z;refine sB (cs:=[(.slice (some ⟨Bg,0,none⟩) 1 1)]) (ps:=[(0,.tmp 27)]) Qzs m k z (by exact (List.forall_mem_cons.2 ⟨congrArg Array.size (Qrb (Enc.ow_rd Az)),fN⟩)) λGb Er Ek a k m e Cj=>oE h λCq Df h=>?_;have Ce:=Enc.ow_agr Az (m.a 1 z);have Cb:=News.box Cj (m.a 0 z) (by simp) (m:=1);have Ds:=m.a 5 z;have m:=m.sl [5,1,0,2,3,4] z;have m:=m.join2;refine Qjm (F:=Ab) (G:=[Bg]) Df Qzs z m Aa Ds Cb Ce (Agr.refl _ _) k z z z z z z λDr Cx Cd a k e m Cc=>pN 1 k z λa k=>wpList_nil (Qae (Qaa ?_));exact ⟨Cq,Dr,Cx,Cd,k.keep [2,5,11,12,13] z,m.sl [3,4,0] z,Cc,h⟩
     refine Qiw (Ab) Qim m z λCl hMd=>?_;have m:=hMd;have s:=Ext.refl ((Ab):List Nat) Cl;refine dM [0,1,2,3] 4 z k z s λa k=>oE h λGc Ac h=>dT k 4 z z s (λw s=>Qak (Enc.ow_rd Aa) Ac k Qyb z z z) λa k=>?_;obtain ⟨Eu,Dw,Ey,Bw,Fw,Fp⟩:=Qa6 (Enc.ow_rd Aa) (Qal Ac).2.2;obtain ⟨Gd,rfl⟩:∃ v,Dw=[v]:=by obtain ⟨_,_,hq,_⟩:=Bw; exact ⟨_,hq⟩
     refine dT k 6 z z s (λw s=>Qan t13 (r:=[]) (Aj.at (hMd.az 0 3 z z z s) 0 1 z z z) k z z) λa k=>?_;obtain ⟨Fn,Ed,Ge,Cr,Fv,Fb⟩:=Qa6 (Enc.ow_rd Aa) (Qal Ac).2.2;obtain ⟨Fj,rfl⟩:∃ v,Ed=[v]:=by obtain ⟨_,_,hq,_⟩:=Cr; exact ⟨_,hq⟩
     refine Qlc 5 7 (by kernel_rfl) z z ?_ ?_ 
     · obtain ⟨Ex,Dk,Fx,Dl,Bf,Dp⟩:=Qa6 (Enc.ow_rd Aa) (Qal Ac).2.2;obtain ⟨Fl,rfl⟩:∃ v,Dk=[v]:=by obtain ⟨_,_,hq,_⟩:=Dl; exact ⟨_,hq⟩
       refine sv k z (Qan Qr1 (Bf.agr (m.a 3 z) Dp) k z z) λa k=>wpList_nil ⟨s,?_⟩;refine dO 7 z (Qdu (cs:=[I Ad]) (ps:=[(0,.tmp 36)]) Qb4 m k z z z z z z z (by decide) z (by exact fC z fN) λCo Cf Fu a k m e Bn By=>?_);have El:=lo1 (Nat.le_trans s.size By);have Bz:=Qa5 Bn ([Ad]:List Int) z z z;refine ns s e λs=>?_;refine dO 8 z ?_;obtain ⟨Fm,Fs,m,Dd,Bm,Bx,Be⟩:=m.opnS 4 z Aa Ac Bf z (M':=[([Co],Cf),([Ax],Bi),([b9],Al),(Ai,At)]) z;refine oE h λDc Cs h=>Qbd Cs Qb4 z m 1 Bm (News.rd (m.q Bz 2 z)) z z k z z z z z z z λCu Da Fq a k e m Ay Dv=>?_;have Fd:∀ y∈Da,y∈(Ab)∨_≤y:=λy hy=>(Dv y hy).elim (λhy=>(λy hy=>(λy hy=>Or.inl hy) y (Be y hy)) y hy) (λh=>Or.inr (Nat.le_trans s.size h));have s:=s.trans e (λy hy=>(λy hy=>Or.inl hy) y (Be y hy));refine wpList_nil ⟨s,?_⟩;refine oE h λFh Ei h=>dT k 9 z z s (λw s=>Qak (Enc.ow_rd Aa) Ac k Qyb z z z) λa k=>dO 10 z (Qu3 (α:=List Int) (sz:=1) (cs':=[Cu]) sizeOf41 m 0 Dd 0 k (Qrb (Enc.ow_rd Ay)) (Qhs (Enc.ow_rd Ay)) z z z z z z z z z z λCk a k e m Bs=>?_)
       obtain ⟨Cy,m,Dz⟩:=(m.sl [0,1,2,3,4,5] z).cls Bs Ay;have s:=s.trans e (λy hy=>(λy hy=>Or.inl hy) y (Bx y hy));refine wpList_nil ⟨s,?_⟩;refine dD ?_;have k:=k.keep [2,11,12,5,13] z;refine (Qae (Qaa ?_));exact ⟨Qhe Af Bb Dc,Ag,Cy,Ck,k.keep [2,5,11,12,13] z,m.sl [3,4,0] z,Dz,h⟩
     refine Qdu (cs:=[I Ad]) (ps:=[(0,.tmp 36)]) Qb4 m k z z z z z z z (by decide) z (by exact fC z fN) λBv Bt Gh a k m e Dj Dh=>?_;have En:=lo1 (Nat.le_trans s.size Dh);have Di:=Qa5 Dj ([Ad]:List Int) z z z;refine ns s e λs=>?_;obtain ⟨Fe,Ci,Fk,Dq,Gg,Et⟩:=Qa6 (Enc.ow_rd Aa) (Qal Ac).2.2;obtain ⟨Gi,rfl⟩:∃ v,Ci=[v]:=by obtain ⟨_,_,hq,_⟩:=Dq; exact ⟨_,hq⟩
     refine dO 5 z ?_;obtain ⟨Fa,Dg,Fy,Ef,Ba,Ca⟩:=Qa6 (Enc.ow_rd Aa) (Qal Ac).2.2;obtain ⟨Ev,rfl⟩:∃ v,Dg=[v]:=by obtain ⟨_,_,hq,_⟩:=Ef; exact ⟨_,hq⟩
     refine sv k z (Qan Qr1 (Ba.agr (m.a 4 z) Ca) k z z) λa k=>wpList_nil ⟨s,?_⟩;refine dO 8 z ?_;obtain ⟨Ez,Ej,m,Dy,Bu,Ea,Bk⟩:=m.opnS 4 z Aa Ac Ba z (M':=[([Bv],Bt),([Ax],Bi),([b9],Al),(Ai,At)]) z;refine oE h λDu Bq h=>Qbd Bq Qb4 z m 1 Bu (News.rd (m.q Di 2 z)) z z k z z z z z z z λDx Cm Ep a k e m Au Db=>?_;have Eo:∀ y∈Cm,y∈(Ab)∨_≤y:=λy hy=>(Db y hy).elim (λhy=>(λy hy=>(λy hy=>Or.inl hy) y (Bk y hy)) y hy) (λh=>Or.inr (Nat.le_trans s.size h));have s:=s.trans e (λy hy=>(λy hy=>Or.inl hy) y (Bk y hy));refine wpList_nil ⟨s,?_⟩;refine oE h λEw Fi h=>dT k 9 z z s (λw s=>Qak (Enc.ow_rd Aa) Ac k Qyb z z z) λa k=>dO 10 z (Qu3 (α:=List Int) (sz:=1) (cs':=[Dx]) sizeOf41 m 0 Dy 0 k (Qrb (Enc.ow_rd Au)) (Qhs (Enc.ow_rd Au)) z z z z z z z z z z λBo a k e m Cv=>?_);obtain ⟨Ct,m,Cg⟩:=(m.sl [0,1,2,3,4,5] z).cls Cv Au;have s:=s.trans e (λy hy=>(λy hy=>Or.inl hy) y (Ea y hy));refine wpList_nil ⟨s,?_⟩;refine dD ?_;have k:=k.keep [2,11,12,5,13] z;refine (Qae (Qaa ?_))
     exact ⟨Qhe Af Bb Du,Ag,Ct,Bo,k.keep [2,5,11,12,13] z,m.sl [3,4,0] z,Cg,h⟩
   refine wp_exit (Qaf (Qaf (Qaj (Qaa ?_))));refine wr (pN 2 k z λa k=>nn (wp_ret ?_));cases h;exact Qct k z (RV.tmp k z) ⟨_,Ab,z,m.ext,(m.v Aa 2 z),(m.fresh 2 z)⟩
 exact ⟨([]:List (List Int)),(.slice (some ⟨Bh,0,none⟩) 0 0),[Bh],Bp,0,k.keep [2,5,11,12,13] z,m.sl [2,0,1] z,De,h⟩
theorem Qsb (fu:Nat) {w0:World} (r1:Request) {Aj:List Value} {F3:List Nat} (Ap:rd w0 F3 Aj r1) {r:(List (List Int))}
    (h:Qhp fu r1=some r) :
    Calls Tryz.prog 23 #[.agg Aj.toArray] w0 λe w=>∃ (v0:Value) (G0:List Nat),e=.returned (v0)∧Ext [] w0 w∧ow w G0 [v0] r∧(∀ b∈G0,w0.heap.size≤b):=by
 refine en (vs:=[_]) func23 z ntmps23 z λa k m=>?_;obtain ⟨v5,F6,v7,F8,v9,Ba,rfl,rfl,Aa,Ab,Ac⟩:=Ap;unfold Qhp at h;refine wr (Qbg (cs:=(cR r1 v5 v7 v9)) m k z z z z z z λAs Bb a k m e Af=>pN 1 k z λa k=>nn (wp_seq (wr (sv k z (rL Qfl m 0 Af 0 k z) λa k=>oE h λBd Ao h=>cC k m call21 z (Qiy fu _ (Qah (m.r Aa) (m.r Ab) (m.r Ac)) Ao) λAz e a k m=>?_))));refine pN 1 k z λa k=>nn (cI h k z (λAr h=>?_) λAr h=>?_)
 · refine wr (pN 1 k z λa k=>nn (wp_ret (Qad ?_)));cases h;exact Qct k z (RV.tmp k z) ⟨_,[],z,m.ext,(Qe1 _),(by simp)⟩
 refine wp_skip (Qaa ?_);refine wp_seq (Qiw [] Qim m z λAq hMd=>?_);have m:=hMd;have s:=Ext.refl ([]:List Nat) Aq;refine dF k 0 Qoq z s λa k=>dT k 1 z z s (λw s=>Qan Q2s (r:=[]) (Af.at ((hMd.step s).a 0 z) 6 1 z z z) k z z) λa k=>dT k 2 z z s (λw s=>Qde Qfl (Af.at ((hMd.step s).a 0 z) 0 10 z z z) z k z z) λa k=>dO 3 z (oE h λBc Am h=>?_);refine sC k call67 z (Q1x fu _ (Qah (m.r Aa) (m.r Ab) (m.r Ac)) Am) λAx Be hR=>?_;obtain ⟨Aw,Ak,rfl,e,Ag,Ai⟩:=hR;refine ⟨_,z,λa k=>?_⟩;have m:=m.nw e Ai Ag;have At:=λ(y:Nat) (hy:y∈Ak)=>Nat.le_trans s.size (Ai y hy);refine ns s e λs=>?_;refine dO 4 z (oE h λBg Al h=>sC k call66 z (Q3m fu _ _ (m.r Aa) (m.q Ag 0 z) Al) λAv Bf hR=>?_);obtain ⟨Ay,Ae,rfl,e,Ad,Ah⟩:=hR;refine ⟨_,z,λa k=>?_⟩;have m:=m.nw e Ah Ad;have Au:=λ(y:Nat) (hy:y∈Ae)=>Nat.le_trans s.size (Ah y hy);refine ns s e λs=>?_;refine dM [5] 1 z k z s λa k=>dD ((Qaa ?_));refine wp_ret ?_;cases h;exact Qct k z (RV.tmp k z) ⟨_,Ae,z,m.ext,(m.v Ad 0 z),(m.fresh 0 z)⟩
end Go.Proofs.YtpcmapfabndggaaGreatDoor
