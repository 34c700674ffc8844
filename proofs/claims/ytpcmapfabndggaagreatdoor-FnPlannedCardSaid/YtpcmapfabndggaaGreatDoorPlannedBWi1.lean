/- FnPlanned: the walks.. -/
import Derived.Test.YtpcmapfabndggaaGreatDoorPlannedBT
set_option maxRecDepth 20000
set_option linter.unusedSimpArgs false
set_option linter.unusedVariables false
set_option linter.unnecessarySimpa false
namespace Go.Proofs.YtpcmapfabndggaaGreatDoor
open Go Go.RowKit
open Enc (rd ow)
open Arg (argv)
open Ret (retv)
open Go.Proofs.Tryz
theorem Qyb (fu:Nat) {w0:World} (t1:Typ) (x2:Int) {b3:Nat} (Aa:bx w0 b3 [I x2] 3) {r:Bool}
    (h:Qo8 fu t1 x2=some r) :
    Calls Tryz.prog 147 #[.agg (Flat.e (t1)).toArray,pt b3] w0 λe w=>e=.returned (.bool (r))∧Ext [] w0 w:=by
 refine en (vs:=[_,_]) func147 z ntmps147 z λa k m=>?_;unfold Qo8 at h;refine wr (Qbg (cs:=[I t1.qQ,I t1.fW,I t1.fH,I t1.fD,I t1.ft,I t1.fQ,I t1.fK]) m k z z z z z z λb5 w7 a k m e Ab=>pN 1 k z λa k=>nn (wr (fl Qtb t13 m 0 Ab k z z λa k=>sv k z (Qan t13 (r:=[]) (Aa.at (m.a00 Aa.lt1) 0 1 z z z) k z z) λa k=>pN 2 k z λa k=>nn (wp_ret (fS h k m z z)))))
theorem Qhu (fu:Nat) {w0:World} (Ac:List Typ) (f5:Typ→Option Bool) {v2:Value} {F3:List Nat} (Aa:rd w0 F3 [v2] Ac) {v6:Value} (Aj:Qvg Tryz.prog w0 v6 f5) {r:Int}
    (h:Qbo fu Ac f5=some r) :
    Calls Tryz.prog 146 #[v2,v6] w0 λe w=>e=.returned (I r)∧Ext [] w0 w:=by
 refine en (vs:=[_,_]) func146 z ntmps146 z λa k m=>?_;obtain ⟨Ae,Ah,rfl,Af,Ag⟩:=Aj;unfold Qbo at h;refine wr (pN 1 k z λa k=>nn (wp_seq (wr (pN 1 k z λa k=>sv k z (Qa2 (α:=Typ) Aa k underlying27 z z) λa k=>pN 1 k z λa k=>nn (wp_block (Qap (λn a w=>∃ (Ab:Int),K 19 [(0,v2),(1,(.func (.func Ae) #[] Ah.toArray)),(7,I (Ac.length:Int)),(8,I Ab)] a∧St [] w0 w []∧Qbb fu Ac f5 n Ab=some r) ?_ ?_ fu _ _ ?_))))))
 · rintro a w ⟨_,_,_,h⟩;exact nS h
 · rintro Aq a Ar ⟨Ab,k,m,h⟩;rw [Qbb.eq_2] at h;unfold Qci at h;refine wr (pN 1 k z λa k=>nn (wp_seq (cI h k z (λAk h=>?_) λAk h=>?_)))
   · refine wp_skip (Qaa ?_);refine wp_seq (wp_block (wr (pN 2 k z λa k=>nn (wr (pN 3 k z λa k=>oE h λAo Ad h=>sv k z (Qak Aa Ad k Q4p z z z) λa k=>sv k z (Qir Aa (m.a00 (Enc.rd_lt Aa)) Ad Qub k z z) λa k=>oE h λAm Ai h=>Qtm k Af z z z z z z (Ag _ _ _ _ m.ext z Ai) λAp As hR=>?_)))));obtain ⟨rfl,e⟩:=hR;refine ⟨_,z,λa k=>?_⟩;have m:=m.step e;refine nn (cI h k z (λAl h=>?_) λAl h=>?_)
     · refine wr (pN 2 k z λa k=>nn (wp_ret (Qag (Qad (Qad (Qag (Qad ?_)))))));refine fS h k m z z
     refine wp_skip (Qae (Qaa ?_));refine wp_region_lit (pN 2 k z λa k=>nn ?_);exact ⟨w64 (Ab+1),k.keep [0,1,7,8] z,m.sl [] z,h⟩
   refine wp_exit (Qaf (Qaf (Qaj (Qaa ?_))));refine wr (pN 1 k z λa k=>nn (wp_ret (fS h k m z z)))
 exact ⟨0,k.keep [0,1,7,8] z,m.sl [] z,h⟩
theorem Qr1 (fu:Nat) {w0:World} (r1:Request) (Ac:Int) {Ad:List Value} {F3:List Nat} (Aq:rd w0 F3 Ad r1) {r:Typ×Bool}
    (h:Qhn fu r1 Ac=some r) :
    Calls Tryz.prog 68 #[.agg Ad.toArray,I Ac] w0 λe w=>e=.returned (.tuple #[.agg (Flat.e r.1).toArray,.bool (r.2)])∧Ext [] w0 w:=by
 refine en (vs:=[_,_]) func68 z ntmps68 z λa k m=>?_;obtain ⟨v6,F7,v8,F9,Ah,Bc,rfl,rfl,Az,Ab,Be⟩:=Aq;unfold Qhn at h;refine wr (Qbg (cs:=(cR r1 v6 v8 Ah)) m k z z z z z z λAr Av a k m e Af=>Qbg (cs:=[I Ac]) m k z z z z z z λAk Au a k m e Al=>Qar (cs:=[I 0,I 0,I 0,I 0,I 0,I 0,I 0]) m k zeroValue90 z z z z z λAt As a k m e Ae=>pN 1 k z λa k=>nn (wr (fl Qey Qve m 2 Af k z z λa k=>pN 1 k z λa k=>oE h λAy Am h=>?_)));refine cC k m call146 z (Qhu fu _ _ (m.r Ab) ⟨147,[pt Ak],z,call147,λw Bd Bb r e Ai hx=>by subst Ai; have m:=m.step e; exact Qyb fu _ _ (Al.agr (m.a 1 rfl) (by simp)) hx⟩ Am) λAw e a k m=>pN 1 k rfl λa k=>nn (wp_seq (wr (pN 2 k rfl λa k=>nn (cI h k rfl (λAj h=>?_) λAj h=>?_))))
 · refine wr (sv k z (Qa9 Q67 k (cs:=#[I 0,I 0,I 0,I 0,I 0,I 0,I 0]) (ps:=[]) z z (by kernel_rfl)) λa k=>sT (cs':=[I 0,I 0,I 0,I 0,I 0,I 0,I 0]) sizeOf90 m 0 Ae 0 k z z λBa a k e m Ap=>pN 1 k z λa k=>nn (wp_ret (Qad ?_)));cases h;exact Quu k z (RV.cA k z Qub (Ap.at (m.a 0 z) 0 7 z z z) z) (RV.tmp k z) ⟨z,m.ext⟩
 refine wp_skip (Qaa ?_);refine wr (fl Qey Qve m 2 Af k z z λa k=>pN 1 k z λa k=>oE h λAa Ag h=>sv k z (Qak Ab Ag k Q4p z z z) λa k=>sv k z (Qir Ab (m.a00 (Enc.rd_lt Ab)) Ag Qub k z z) λa k=>sT (cs':=[I Aa.qQ,I Aa.fW,I Aa.fH,I Aa.fD,I Aa.ft,I Aa.fQ,I Aa.fK]) sizeOf90 m 0 Ae 0 k z z λAx a k e m Ao=>pN 1 k z λa k=>nn (wp_ret ?_));cases h;exact Quu k z (RV.cA k z Qub (Ao.at (m.a 0 z) 0 7 z z z) z) (RV.tmp k z) ⟨z,m.ext⟩
theorem Qtw (fu:Nat) {w0:World} (r1:Request) {Af:List Value} {F3:List Nat} (Ag:rd w0 F3 Af r1) {r:Typ×Bool}
    (h:Qih fu r1=some r) :
    Calls Tryz.prog 131 #[.agg Af.toArray] w0 λe w=>e=.returned (.tuple #[.agg (Flat.e r.1).toArray,.bool (r.2)])∧Ext [] w0 w:=by
 refine en (vs:=[_]) func131 z ntmps131 z λa k m=>?_;obtain ⟨v5,F6,v7,F8,v9,Ao,rfl,rfl,Ab,Ac,Ae⟩:=Ag;unfold Qih at h;refine wr (Qbg (cs:=(cR r1 v5 v7 v9)) m k z z z z z z λAm Ap a k m e Ad=>Qar (cs:=[I 0,I 0,I 0,I 0,I 0,I 0,I 0]) m k zeroValue90 z z z z z λAl Aq a k m e Ah=>pN 1 k z λa k=>nn (wr (sv k z (rL Qfg m 1 Ad 0 k z) λa k=>fl Q5w t13 m 1 Ad k z z λa k=>oE h λAa Ai h=>?_)));refine cC k m call68 z (Qr1 fu _ _ (Qah (m.r Ab) (m.r Ac) (m.r Ae)) Ai) λAr e a k m=>pN 2 k z λa k=>sT (cs':=[I Aa.1.qQ,I Aa.1.fW,I Aa.1.fH,I Aa.1.fD,I Aa.1.ft,I Aa.1.fQ,I Aa.1.fK]) sizeOf90 m 0 Ah 0 k z z λAk a k e m Aj=>pN 1 k z λa k=>nn (wp_ret ?_);cases h;exact Quu k z (RV.cA k z Qub (Aj.at (m.a 0 z) 0 7 z z z) z) (RV.tmp k z) ⟨z,m.ext⟩
theorem Qbn (fu:Nat) {w0:World} (n1:Int) (Ab:Int) (Ac:Int)  {r:Bool}
    (h:Qbk fu n1 Ab Ac=some r) :
    Calls Tryz.prog 42 #[I n1,I Ab,I Ac] w0 λe w=>e=.returned (.bool (r))∧Ext [] w0 w:=by
 refine en (vs:=[_,_,_]) func42 z ntmps42 z λa k m=>?_;unfold Qbk at h;refine wr (pN 1 k z λa k=>nn (wr (pN 4 k z λa k=>Qam (decide (n1≥Ab)) (λAa=>?_) (λAa=>?_))))
 · have h:=Qax Aa h;refine rB k 10 z Aa λk=>pN 5 k z λa k=>nn (wp_ret (fS h k m z z))
 have h:=Qav Aa h;refine rB k 10 z Aa λk=>pN 5 k z λa k=>nn (wp_ret (fS h k m z z))
theorem Qfd (fu:Nat) {w0:World} (n1:Int)  {r:Bool}
    (h:Qc4 fu n1=some r) :
    Calls Tryz.prog 189 #[I n1] w0 λe w=>e=.returned (.bool (r))∧Ext [] w0 w:=by
 refine en (vs:=[_]) func189 z ntmps189 z λa k m=>?_;unfold Qc4 at h;refine wr (pN 1 k z λa k=>nn (wr (pN 1 k z λa k=>oE h λx2 Aa h=>cC k m call42 z (Qbn fu _ _ _  Aa) λw5 e a k m=>pN 1 k z λa k=>nn (wp_ret (fS h k m z z)))))
theorem Qrt (fu:Nat) {w0:World} (x1:Pallet)  {r:Bool}
    (h:Qe9 fu x1=some r) :
    Calls Tryz.prog 149 #[.agg (Flat.e (x1)).toArray] w0 λe w=>e=.returned (.bool (r))∧Ext [] w0 w:=by
 refine en (vs:=[_]) func149 z ntmps149 z λa k m=>?_;unfold Qe9 at h;refine wr (Qbg (cs:=[I x1.fW,I x1.fD,I x1.fH,I x1.fQ]) m k z z z z z z λb2 w4 a k m e Ad=>pN 1 k z λa k=>nn (wr (fl Qwg t13 m 0 Ad k z z λa k=>oE h λx5 Ag h=>cC k m call189 z (Qfd fu _  Ag) λw9 e a k m=>pN 1 k z λa k=>Qam (x5) (λAa=>?_) (λAa=>?_))))
 · have h:=Qax Aa h;refine rB k 6 z Aa λk=>fl Qu3 t13 m 0 Ad k z z λa k=>oE h λAj Af h=>cC k m call189 z (Qfd fu _  Af) λAm e a k m=>pN 2 k z λa k=>Qam (Aj) (λAb=>?_) (λAb=>?_)
   · have h:=Qax Ab h;refine rB k 11 z Ab λk=>fl Qu5 t13 m 0 Ad k z z λa k=>oE h λAi Ah h=>cC k m call189 z (Qfd fu _  Ah) λAl e a k m=>pN 2 k z λa k=>Qam (Ai) (λAc=>?_) (λAc=>?_)
     · have h:=Qax Ac h;refine rB k 16 z Ac λk=>fl Qsz t13 m 0 Ad k z z λa k=>oE h λAo Ae h=>cC k m call42 z (Qbn fu _ _ _  Ae) λAk e a k m=>pN 2 k z λa k=>nn (wp_ret (fS h k m z z))
     have h:=Qav Ac h;refine rB k 16 z Ac λk=>pN 5 k z λa k=>nn (wp_ret (fS h k m z z))
   have h:=Qav Ab h;refine rB k 11 z Ab λk=>pN 10 k z λa k=>nn (wp_ret (fS h k m z z))
 have h:=Qav Aa h;refine rB k 6 z Aa λk=>pN 15 k z λa k=>nn (wp_ret (fS h k m z z))
theorem Qo4 (fu:Nat) {w0:World} (Ac:List Pair) (f5:Pair→Option Bool) {v2:Value} {F3:List Nat} (Aa:rd w0 F3 [v2] Ac) {v6:Value} (Aj:Qvg Tryz.prog w0 v6 f5) {r:Int}
    (h:Qb7 fu Ac f5=some r) :
    Calls Tryz.prog 250 #[v2,v6] w0 λe w=>e=.returned (I r)∧Ext [] w0 w:=by
 refine en (vs:=[_,_]) func250 z ntmps250 z λa k m=>?_;obtain ⟨Ae,Ah,rfl,Af,Ag⟩:=Aj;unfold Qb7 at h;refine wr (pN 1 k z λa k=>nn (wp_seq (wr (pN 1 k z λa k=>sv k z (Qa2 (α:=Pair) Aa k underlying26 z z) λa k=>pN 1 k z λa k=>nn (wp_block (Qap (λn a w=>∃ (Ab:Int),K 19 [(0,v2),(1,(.func (.func Ae) #[] Ah.toArray)),(7,I (Ac.length:Int)),(8,I Ab)] a∧St [] w0 w []∧Qa7 fu Ac f5 n Ab=some r) ?_ ?_ fu _ _ ?_))))))
 · rintro a w ⟨_,_,_,h⟩;exact nS h
 · rintro Aq a Ar ⟨Ab,k,m,h⟩;rw [Qa7.eq_2] at h;unfold Qch at h;refine wr (pN 1 k z λa k=>nn (wp_seq (cI h k z (λAk h=>?_) λAk h=>?_)))
   · refine wp_skip (Qaa ?_);refine wp_seq (wp_block (wr (pN 2 k z λa k=>nn (wr (pN 3 k z λa k=>oE h λAo Ad h=>sv k z (Qak Aa Ad k Jde z z z) λa k=>sv k z (Qir Aa (m.a00 (Enc.rd_lt Aa)) Ad Jdz k z z) λa k=>oE h λAm Ai h=>Qtm k Af z z z z z z (Ag _ _ _ _ m.ext z Ai) λAp As hR=>?_)))));obtain ⟨rfl,e⟩:=hR;refine ⟨_,z,λa k=>?_⟩;have m:=m.step e;refine nn (cI h k z (λAl h=>?_) λAl h=>?_)
     · refine wr (pN 2 k z λa k=>nn (wp_ret (Qag (Qad (Qad (Qag (Qad ?_)))))));refine fS h k m z z
     refine wp_skip (Qae (Qaa ?_));refine wp_region_lit (pN 2 k z λa k=>nn ?_);exact ⟨w64 (Ab+1),k.keep [0,1,7,8] z,m.sl [] z,h⟩
   refine wp_exit (Qaf (Qaf (Qaj (Qaa ?_))));refine wr (pN 1 k z λa k=>nn (wp_ret (fS h k m z z)))
 exact ⟨0,k.keep [0,1,7,8] z,m.sl [] z,h⟩
theorem Qgz (fu:Nat) {w0:World} (Aa:List Pair) (f5:Pair→Option Bool) {v2:Value} {F3:List Nat} (Ab:rd w0 F3 [v2] Aa) {v6:Value} (Ag:Qvg Tryz.prog w0 v6 f5) {r:Bool}
    (h:Qba fu Aa f5=some r) :
    Calls Tryz.prog 205 #[v2,v6] w0 λe w=>e=.returned (.bool (r))∧Ext [] w0 w:=by
 refine en (vs:=[_,_]) func205 z ntmps205 z λa k m=>?_;obtain ⟨Ai,Ak,rfl,Ac,Ad⟩:=Ag;unfold Qba at h;refine wr (pN 1 k z λa k=>nn (wr (pN 2 k z λa k=>oE h λAj Ah h=>cC k m call250 z (Qo4 fu _ _ (m.r Ab) ⟨_,_,z,Ac,λw Af Ae r e=>Ad w Af Ae r (m.ext.trans e (by simp))⟩ Ah) λAl e a k m=>pN 2 k z λa k=>nn (wp_ret (fS h k m z z)))))
theorem Qye (fu:Nat) {w0:World} (p1:Pair)  {r:Bool}
    (h:Qkz fu p1=some r) :
    Calls Tryz.prog 206 #[.agg (Flat.e (p1)).toArray] w0 λe w=>e=.returned (.bool (r))∧Ext [] w0 w:=by
 refine en (vs:=[_]) func206 z ntmps206 z λa k m=>?_;unfold Qkz at h;refine wr (Qbg (cs:=[I p1.fA,I p1.fB]) m k z z z z z z λb2 w4 a k m e Ab=>pN 1 k z λa k=>nn (wr (fl Q0s t13 m 0 Ab k z z λa k=>oE h λx5 Ad h=>cC k m call42 z (Qbn fu _ _ _  Ad) λw9 e a k m=>pN 2 k z λa k=>Qam (!x5) (λAa=>?_) (λAa=>?_))))
 · have h:=Qax Aa h;refine rB k 7 z Aa λk=>pN 6 k z λa k=>nn (wp_ret (fS h k m z z))
 have h:=Qav Aa h;refine rB k 7 z Aa λk=>fl Qz8 t13 m 0 Ab k z z λa k=>oE h λAf Ac h=>cC k m call42 z (Qbn fu _ _ _  Ac) λAe e a k m=>pN 3 k z λa k=>nn (wp_ret (fS h k m z z))
theorem Qd9 (fu:Nat) {w0:World} (Aa:List Typ) (f5:Typ→Option Bool) {v2:Value} {F3:List Nat} (Ab:rd w0 F3 [v2] Aa) {v6:Value} (Ag:Qvg Tryz.prog w0 v6 f5) {r:Bool}
    (h:Qay fu Aa f5=some r) :
    Calls Tryz.prog 137 #[v2,v6] w0 λe w=>e=.returned (.bool (r))∧Ext [] w0 w:=by
 refine en (vs:=[_,_]) func137 z ntmps137 z λa k m=>?_;obtain ⟨Ai,Ak,rfl,Ac,Ad⟩:=Ag;unfold Qay at h;refine wr (pN 1 k z λa k=>nn (wr (pN 2 k z λa k=>oE h λAj Ah h=>cC k m call146 z (Qhu fu _ _ (m.r Ab) ⟨_,_,z,Ac,λw Af Ae r e=>Ad w Af Ae r (m.ext.trans e (by simp))⟩ Ah) λAl e a k m=>pN 2 k z λa k=>nn (wp_ret (fS h k m z z)))))
theorem Q4e (fu:Nat) {w0:World} (x1:Typ)  {r:Bool}
    (h:Qrl fu x1=some r) :
    Calls Tryz.prog 208 #[.agg (Flat.e (x1)).toArray] w0 λe w=>e=.returned (.bool (r))∧Ext [] w0 w:=by
 refine en (vs:=[_]) func208 z ntmps208 z λa k m=>?_;unfold Qrl at h;refine wr (Qbg (cs:=[I x1.qQ,I x1.fW,I x1.fH,I x1.fD,I x1.ft,I x1.fQ,I x1.fK]) m k z z z z z z λb2 w4 a k m e Aa=>pN 1 k z λa k=>nn (wr (fl Qtb t13 m 0 Aa k z z λa k=>oE h λx5 Ar h=>cC k m call42 z (Qbn fu _ _ _  Ar) λw9 e a k m=>pN 1 k z λa k=>Qam (x5) (λAc=>?_) (λAc=>?_))))
 · have h:=Qax Ac h;refine rB k 6 z Ac λk=>fl Qvw t13 m 0 Aa k z z λa k=>oE h λAj Ai h=>cC k m call189 z (Qfd fu _  Ai) λAu e a k m=>pN 2 k z λa k=>Qam (Aj) (λAd=>?_) (λAd=>?_)
   · have h:=Qax Ad h;refine rB k 11 z Ad λk=>fl Qu1 t13 m 0 Aa k z z λa k=>oE h λAl Ak h=>cC k m call189 z (Qfd fu _  Ak) λAx e a k m=>pN 2 k z λa k=>Qam (Al) (λAg=>?_) (λAg=>?_)
     · have h:=Qax Ag h;refine rB k 16 z Ag λk=>fl Qvq t13 m 0 Aa k z z λa k=>oE h λAs Ah h=>cC k m call189 z (Qfd fu _  Ah) λAv e a k m=>pN 2 k z λa k=>Qam (As) (λAf=>?_) (λAf=>?_)
       · have h:=Qax Af h;refine rB k 21 z Af λk=>fl Q2v t13 m 0 Aa k z z λa k=>oE h λAo At h=>cC k m call42 z (Qbn fu _ _ _  At) λAz e a k m=>pN 2 k z λa k=>Qam (Ao) (λAe=>?_) (λAe=>?_)
         · have h:=Qax Ae h;refine rB k 26 z Ae λk=>fl Qwe t13 m 0 Aa k z z λa k=>oE h λAm Ap h=>cC k m call42 z (Qbn fu _ _ _  Ap) λBa e a k m=>pN 2 k z λa k=>Qam (Am) (λAb=>?_) (λAb=>?_)
           · have h:=Qax Ab h;refine rB k 31 z Ab λk=>fl Qwk t13 m 0 Aa k z z λa k=>oE h λAy Aq h=>cC k m call42 z (Qbn fu _ _ _  Aq) λAw e a k m=>pN 2 k z λa k=>?_;have k:=k.keep [2] z;refine nn (wp_ret (fS h k m z z))
           have h:=Qav Ab h;refine rB k 31 z Ab λk=>pN 5 k z λa k=>?_;have k:=k.keep [2] z;refine nn (wp_ret (fS h k m z z))
         have h:=Qav Ae h;refine rB k 26 z Ae λk=>pN 10 k z λa k=>?_;have k:=k.keep [2] z;refine nn (wp_ret (fS h k m z z))
       have h:=Qav Af h;refine rB k 21 z Af λk=>pN 15 k z λa k=>?_;have k:=k.keep [2] z;refine nn (wp_ret (fS h k m z z))
     have h:=Qav Ag h;refine rB k 16 z Ag λk=>pN 20 k z λa k=>?_;have k:=k.keep [2] z;refine nn (wp_ret (fS h k m z z))
   have h:=Qav Ad h;refine rB k 11 z Ad λk=>pN 25 k z λa k=>?_;have k:=k.keep [2] z;refine nn (wp_ret (fS h k m z z))
 have h:=Qav Ac h;refine rB k 6 z Ac λk=>pN 30 k z λa k=>?_;have k:=k.keep [2] z;refine nn (wp_ret (fS h k m z z))
theorem Qyl (fu:Nat) {w0:World} (t1:Typ)  {r:Bool}
    (h:Qkw fu t1=some r) :
    Calls Tryz.prog 207 #[.agg (Flat.e (t1)).toArray] w0 λe w=>e=.returned (.bool (r))∧Ext [] w0 w:=by
 refine en (vs:=[_]) func207 z ntmps207 z λa k m=>?_;unfold Qkw at h;refine wr (Qbg (cs:=[I t1.qQ,I t1.fW,I t1.fH,I t1.fD,I t1.ft,I t1.fQ,I t1.fK]) m k z z z z z z λb2 w4 a k m e Aa=>pN 1 k z λa k=>nn (wr (sv k z (rL Qub m 0 Aa 0 k z) λa k=>oE h λx5 Ab h=>cC k m call208 z (Q4e fu (t1:Typ)  Ab) λw9 e a k m=>pN 2 k z λa k=>nn (wp_ret (fS h k m z z)))))
theorem Q4j (fu:Nat) {w0:World} (x1:Item)  {r:Bool}
    (h:Qrw fu x1=some r) :
    Calls Tryz.prog 209 #[.agg (Flat.e (x1)).toArray] w0 λe w=>e=.returned (.bool (r))∧Ext [] w0 w:=by
 refine en (vs:=[_]) func209 z ntmps209 z λa k m=>?_;unfold Qrw at h;refine wr (Qbg (cs:=[I x1.qQ,I x1.fW,I x1.fH,I x1.fD,I x1.fQ,I x1.fL,I x1.f0]) m k z z z z z z λb2 w4 a k m e Aa=>pN 1 k z λa k=>nn (wr (fl Qyg t13 m 0 Aa k z z λa k=>oE h λx5 Ar h=>cC k m call42 z (Qbn fu _ _ _  Ar) λw9 e a k m=>pN 1 k z λa k=>Qam (x5) (λAc=>?_) (λAc=>?_))))
 · have h:=Qax Ac h;refine rB k 6 z Ac λk=>fl Qww t13 m 0 Aa k z z λa k=>oE h λAj Ai h=>cC k m call189 z (Qfd fu _  Ai) λAu e a k m=>pN 2 k z λa k=>Qam (Aj) (λAd=>?_) (λAd=>?_)
   · have h:=Qax Ad h;refine rB k 11 z Ad λk=>fl Qwx t13 m 0 Aa k z z λa k=>oE h λAl Ak h=>cC k m call189 z (Qfd fu _  Ak) λAx e a k m=>pN 2 k z λa k=>Qam (Al) (λAg=>?_) (λAg=>?_)
     · have h:=Qax Ag h;refine rB k 16 z Ag λk=>fl Qvf t13 m 0 Aa k z z λa k=>oE h λAs Ah h=>cC k m call189 z (Qfd fu _  Ah) λAv e a k m=>pN 2 k z λa k=>Qam (As) (λAf=>?_) (λAf=>?_)
       · have h:=Qax Af h;refine rB k 21 z Af λk=>fl Qvn t13 m 0 Aa k z z λa k=>oE h λAo At h=>cC k m call42 z (Qbn fu _ _ _  At) λAz e a k m=>pN 2 k z λa k=>Qam (Ao) (λAe=>?_) (λAe=>?_)
         · have h:=Qax Ae h;refine rB k 26 z Ae λk=>fl Qui t13 m 0 Aa k z z λa k=>oE h λAm Ap h=>cC k m call42 z (Qbn fu _ _ _  Ap) λBa e a k m=>pN 2 k z λa k=>Qam (Am) (λAb=>?_) (λAb=>?_)
           · have h:=Qax Ab h;refine rB k 31 z Ab λk=>fl Qva t13 m 0 Aa k z z λa k=>oE h λAy Aq h=>cC k m call42 z (Qbn fu _ _ _  Aq) λAw e a k m=>pN 2 k z λa k=>?_;have k:=k.keep [2] z;refine nn (wp_ret (fS h k m z z))
           have h:=Qav Ab h;refine rB k 31 z Ab λk=>pN 5 k z λa k=>?_;have k:=k.keep [2] z;refine nn (wp_ret (fS h k m z z))
         have h:=Qav Ae h;refine rB k 26 z Ae λk=>pN 10 k z λa k=>?_;have k:=k.keep [2] z;refine nn (wp_ret (fS h k m z z))
       have h:=Qav Af h;refine rB k 21 z Af λk=>pN 15 k z λa k=>?_;have k:=k.keep [2] z;refine nn (wp_ret (fS h k m z z))
     have h:=Qav Ag h;refine rB k 16 z Ag λk=>pN 20 k z λa k=>?_;have k:=k.keep [2] z;refine nn (wp_ret (fS h k m z z))
   have h:=Qav Ad h;refine rB k 11 z Ad λk=>pN 25 k z λa k=>?_;have k:=k.keep [2] z;refine nn (wp_ret (fS h k m z z))
 have h:=Qav Ac h;refine rB k 6 z Ac λk=>pN 30 k z λa k=>?_;have k:=k.keep [2] z;refine nn (wp_ret (fS h k m z z))
theorem Q02 (fu:Nat) {w0:World} (r1:Request) {Aq:List Value} {F3:List Nat} (Bo:rd w0 F3 Aq r1) {r:Bool}
    (h:Qoq fu r1=some r) :
    Calls Tryz.prog 132 #[.agg Aq.toArray] w0 λe w=>e=.returned (.bool (r))∧Ext [] w0 w:=by
 refine en (vs:=[_]) func132 z ntmps132 z λa k m=>?_;obtain ⟨v5,F6,v7,F8,v9,Cj,rfl,rfl,Ao,Am,Ae⟩:=Bo;unfold Qoq at h;refine wr (Qbg (cs:=(cR r1 v5 v7 v9)) m k z z z z z z λAk Ap a k m e Aa=>pN 1 k z λa k=>nn (Qc1 (λa w=>K 70 [(1,pt Ak)] a∧St [] w0 w [([Ak],Ap)]∧Qns fu r1=some r) ?_ ?_))
 · rintro a Bt ⟨k,m,h⟩;unfold Qns at h;refine wp_seq (wr (fl Qoe Q2s m 0 Aa k z z λa k=>oE h λCk Bh h=>cC k m call205 z (Qgz fu _ _ (m.r Ao) ⟨206,[],z,call206,λw Cg Cc r e Av hx=>by subst Av; have m:=m.step e; exact Qye fu _  hx⟩ Bh) λCd e a k m=>nn (cI h k rfl (λBf h=>?_) λBf h=>?_)))
   · refine wr (pN 1 k z λa k=>nn (wp_ret (Qad ?_)));refine fS h k m z z
   refine wp_skip (Qaa ?_);refine Qc1 (λa w=>K 70 [(1,pt Ak)] a∧St [] w0 w [([Ak],Ap)]∧Qnj fu r1=some r) ?_ ?_
   · rintro a Bq ⟨k,m,h⟩;unfold Qnj at h;refine wr (pN 1 k z λa k=>nn (wp_seq (wr (fl Qhj Qwo m 0 Aa k z z λa k=>sv k z (Qa2 (α:=Item) Ae k underlying28 z z) λa k=>pN 1 k z λa k=>nn (wp_block (Qap (λn a w=>∃ (Al:Int) (Aj:Int),K 70 [(3,I Al),(54,v9),(55,I (r1.fU.length:Int)),(56,I Aj)] a∧St [] w0 w []∧Qe2 fu r1 n Al Aj=some r) ?_ ?_ fu _ _ ?_))))))
     · rintro a w ⟨_,_,_,_,h⟩;exact nS h
     · rintro Ce a Bx ⟨Al,Aj,k,m,h⟩;rw [Qe2.eq_2] at h;unfold Qjx at h;refine wr (pN 1 k z λa k=>nn (wp_seq (cI h k z (λAw h=>?_) λAw h=>?_)))
       · refine wp_skip (Qaa ?_);refine wp_seq (wp_block (wr (oE h λAb As h=>sv k z (Qak Ae As k Q0b z z z) λa k=>sv k z (Qir Ae (m.a00 (Enc.rd_lt Ae)) As Qud k z z) λa k=>Qar (cs:=[I 0,I 0,I 0,I 0,I 0,I 0,I 0]) m k zeroValue113 z z z z z λCb By a k m e Bc=>sT (cs':=[I Ab.qQ,I Ab.fW,I Ab.fH,I Ab.fD,I Ab.fQ,I Ab.fL,I Ab.f0]) sizeOf113 m 0 Bc 0 k z z λCf a k e m Ar=>nn (wp_seq (wr (sv k z (rL Qud m 0 Ar 0 k z) λa k=>oE h λBz Ba h=>cC k m call209 z (Q4j fu (Ab:Item)  Ba) λCi e a k m=>?_))))));refine pN 1 k z λa k=>nn (cI h k z (λBn h=>?_) λBn h=>?_)
         · refine wr (pN 1 k z λa k=>nn (wp_ret (Qad (Qag (Qad (Qad (Qag (Qad ?_))))))));refine fS h k m z z
         refine wp_skip (Qaa ?_);refine wp_region_lit (pN 1 k z λa k=>fl Qva t13 m 0 Ar k z z λa k=>pN 2 k z λa k=>wpList_nil (Qae (Qaa ?_)));refine wp_region_lit (pN 2 k z λa k=>nn ?_);exact ⟨w64 (Al+Ab.f0),w64 (Aj+1),k.keep [3,54,55,56] z,m.sl [] z,h⟩
       refine wp_exit (Qaf (Qaf (Qaj (Qaa ?_))));refine wr (pN 3 k z λa k=>nn (wp_ret (fS h k m z z)))
     exact ⟨0,0,k.keep [3,54,55,56] z,m.sl [] z,h⟩
   refine wr (fl Qey Qve m 0 Aa k z z λa k=>sv k z (Qa2 (α:=Typ) Am k underlying27 z z) λa k=>oE h λAx Bb h=>cC k m call42 z (Qbn fu _ _ _  Bb) λBw e a k m=>pN 2 k z λa k=>Qam (!Ax) (λAd=>?_) (λAd=>?_))
   · have h:=Qax Ad h;refine rB k 36 z Ad λk=>pN 16 k z λa k=>?_;have k:=k.keep [1,52] z;refine nn (wp_cond_true (k.ev z) (wr (pN 1 k z λa k=>nn (wp_ret (Qad ?_)))));refine fS h k m z z
   have h:=Qav Ad h;refine rB k 36 z Ad λk=>fl Qey Qve m 0 Aa k z z λa k=>oE h λBp Au h=>cC k m call137 z (Qd9 fu _ _ (m.r Am) ⟨207,[],z,call207,λw Cl Ca r e Bi hx=>by subst Bi; have m:=m.step e; exact Qyl fu _  hx⟩ Au) λBr e a k m=>pN 2 k rfl λa k=>Qam (Bp) (λAc=>?_) (λAc=>?_)
   · have h:=Qax Ac h;refine rB k 41 z Ac λk=>pN 11 k z λa k=>?_;have k:=k.keep [1,52] z;refine nn (wp_cond_true (k.ev z) (wr (pN 1 k z λa k=>nn (wp_ret (Qad ?_)))));refine fS h k m z z
   have h:=Qav Ac h;refine rB k 41 z Ac λk=>fl Q5w t13 m 0 Aa k z z λa k=>oE h λBk Bl h=>cC k m call42 z (Qbn fu _ _ _  Bl) λBu e a k m=>pN 3 k z λa k=>Qam (!Bk) (λAf=>?_) (λAf=>?_)
   · have h:=Qax Af h;refine rB k 47 z Af λk=>pN 5 k z λa k=>?_;have k:=k.keep [1,52] z;refine nn (wp_cond_true (k.ev z) (wr (pN 1 k z λa k=>nn (wp_ret (Qad ?_)))));refine fS h k m z z
   have h:=Qav Af h;refine rB k 47 z Af λk=>fl Qhj Qwo m 0 Aa k z z λa k=>sv k z (Qa2 (α:=Item) Ae k underlying28 z z) λa k=>pN 2 k z λa k=>?_;have k:=k.keep [1,52] z;refine nn (cI h k z (λBe h=>?_) λBe h=>?_)
   · refine wr (pN 1 k z λa k=>nn (wp_ret (Qad ?_)));refine fS h k m z z
   refine wp_skip (Qaa ?_);exact ⟨k.keep [1] z,m.sl [0] z,h⟩
 refine wr (fl Q42 t13 m 0 Aa k z z λa k=>oE h λAz At h=>cC k m call42 z (Qbn fu _ _ _  At) λBs e a k m=>pN 2 k z λa k=>Qam (!Az) (λAi=>?_) (λAi=>?_))
 · have h:=Qax Ai h;refine rB k 10 z Ai λk=>pN 17 k z λa k=>nn (wp_cond_true (k.ev z) (wr (pN 1 k z λa k=>?_)));have k:=k.keep [2] z;refine nn (wp_ret (Qad ?_));refine fS h k m z z
 have h:=Qav Ai h;refine rB k 10 z Ai λk=>sv k z (Qht Qt3 k z z) λa k=>sv k z (rL Qxu m 0 Aa 1 k z) λa k=>oE h λAy Bj h=>cC k m call149 z (Qrt fu (r1.fJ:Pallet)  Bj) λCh e a k m=>pN 3 k z λa k=>Qam (!Ay) (λAh=>?_) (λAh=>?_)
 · have h:=Qax Ah h;refine rB k 16 z Ah λk=>pN 11 k z λa k=>nn (wp_cond_true (k.ev z) (wr (pN 1 k z λa k=>?_)));have k:=k.keep [2] z;refine nn (wp_ret (Qad ?_));refine fS h k m z z
 have h:=Qav Ah h;refine rB k 16 z Ah λk=>fl Quc t13 m 0 Aa k z z λa k=>oE h λBd Bm h=>cC k m call42 z (Qbn fu _ _ _  Bm) λBv e a k m=>pN 3 k z λa k=>Qam (!Bd) (λAg=>?_) (λAg=>?_)
 · have h:=Qax Ag h;refine rB k 22 z Ag λk=>pN 5 k z λa k=>nn (wp_cond_true (k.ev z) (wr (pN 1 k z λa k=>?_)));have k:=k.keep [2] z;refine nn (wp_ret (Qad ?_));refine fS h k m z z
 have h:=Qav Ag h;refine rB k 22 z Ag λk=>fl Qoe Q2s m 0 Aa k z z λa k=>sv k z (Qa2 (α:=Pair) Ao k underlying26 z z) λa k=>pN 2 k z λa k=>nn (cI h k z (λBg h=>?_) λBg h=>?_)
 · refine wr (pN 1 k z λa k=>?_);have k:=k.keep [2] z;refine nn (wp_ret (Qad ?_));refine fS h k m z z
 refine wp_skip (Qaa ?_);exact ⟨k.keep [1] z,m.sl [0] z,h⟩
theorem Qy4 (fu:Nat) {w0:World} (q1:Typ) (x2:Typ) {b3:Nat} (Aa:bx w0 b3 [I x2.qQ,I x2.fW,I x2.fH,I x2.fD,I x2.ft,I x2.fQ,I x2.fK] 90) {r:Bool}
    (h:Qqw fu q1 x2=some r) :
    Calls Tryz.prog 210 #[.agg (Flat.e (q1)).toArray,pt b3] w0 λe w=>e=.returned (.bool (r))∧Ext [] w0 w:=by
 refine en (vs:=[_,_]) func210 z ntmps210 z λa k m=>?_;unfold Qqw at h;refine wr (Qbg (cs:=[I q1.qQ,I q1.fW,I q1.fH,I q1.fD,I q1.ft,I q1.fQ,I q1.fK]) m k z z z z z z λb5 w7 a k m e Ab=>pN 1 k z λa k=>nn (wr (fl Qtb t13 m 0 Ab k z z λa k=>sv k z (Qht Qtb k z z) λa k=>sv k z (Qan t13 (r:=[]) (Aa.at (m.a00 Aa.lt1) 0 1 z z z) k z z) λa k=>pN 2 k z λa k=>nn (wp_ret (fS h k m z z)))))
theorem Qzh (fu:Nat) {w0:World} (q1:Item) (x2:Item) {b3:Nat} (Aa:bx w0 b3 [I x2.qQ,I x2.fW,I x2.fH,I x2.fD,I x2.fQ,I x2.fL,I x2.f0] 113) {r:Bool}
    (h:Qq1 fu q1 x2=some r) :
    Calls Tryz.prog 211 #[.agg (Flat.e (q1)).toArray,pt b3] w0 λe w=>e=.returned (.bool (r))∧Ext [] w0 w:=by
 refine en (vs:=[_,_]) func211 z ntmps211 z λa k m=>?_;unfold Qq1 at h;refine wr (Qbg (cs:=[I q1.qQ,I q1.fW,I q1.fH,I q1.fD,I q1.fQ,I q1.fL,I q1.f0]) m k z z z z z z λb5 w7 a k m e Ab=>pN 1 k z λa k=>nn (wr (fl Qyg t13 m 0 Ab k z z λa k=>sv k z (Qht Qyg k z z) λa k=>sv k z (Qan t13 (r:=[]) (Aa.at (m.a00 Aa.lt1) 0 1 z z z) k z z) λa k=>pN 2 k z λa k=>nn (wp_ret (fS h k m z z)))))
theorem Qpj (fu:Nat) {w0:World} (Ac:List Item) (f5:Item→Option Bool) {v2:Value} {F3:List Nat} (Aa:rd w0 F3 [v2] Ac) {v6:Value} (Aj:Qvg Tryz.prog w0 v6 f5) {r:Int}
    (h:Qb6 fu Ac f5=some r) :
    Calls Tryz.prog 188 #[v2,v6] w0 λe w=>e=.returned (I r)∧Ext [] w0 w:=by
 refine en (vs:=[_,_]) func188 z ntmps188 z λa k m=>?_;obtain ⟨Ae,Ah,rfl,Af,Ag⟩:=Aj;unfold Qb6 at h;refine wr (pN 1 k z λa k=>nn (wp_seq (wr (pN 1 k z λa k=>sv k z (Qa2 (α:=Item) Aa k underlying28 z z) λa k=>pN 1 k z λa k=>nn (wp_block (Qap (λn a w=>∃ (Ab:Int),K 19 [(0,v2),(1,(.func (.func Ae) #[] Ah.toArray)),(7,I (Ac.length:Int)),(8,I Ab)] a∧St [] w0 w []∧Qa8 fu Ac f5 n Ab=some r) ?_ ?_ fu _ _ ?_))))))
 · rintro a w ⟨_,_,_,h⟩;exact nS h
 · rintro Aq a Ar ⟨Ab,k,m,h⟩;rw [Qa8.eq_2] at h;unfold Qcj at h;refine wr (pN 1 k z λa k=>nn (wp_seq (cI h k z (λAk h=>?_) λAk h=>?_)))
   · refine wp_skip (Qaa ?_);refine wp_seq (wp_block (wr (pN 2 k z λa k=>nn (wr (pN 3 k z λa k=>oE h λAo Ad h=>sv k z (Qak Aa Ad k Q0b z z z) λa k=>sv k z (Qir Aa (m.a00 (Enc.rd_lt Aa)) Ad Qud k z z) λa k=>oE h λAm Ai h=>Qtm k Af z z z z z z (Ag _ _ _ _ m.ext z Ai) λAp As hR=>?_)))));obtain ⟨rfl,e⟩:=hR;refine ⟨_,z,λa k=>?_⟩;have m:=m.step e;refine nn (cI h k z (λAl h=>?_) λAl h=>?_)
     · refine wr (pN 2 k z λa k=>nn (wp_ret (Qag (Qad (Qad (Qag (Qad ?_)))))));refine fS h k m z z
     refine wp_skip (Qae (Qaa ?_));refine wp_region_lit (pN 2 k z λa k=>nn ?_);exact ⟨w64 (Ab+1),k.keep [0,1,7,8] z,m.sl [] z,h⟩
   refine wp_exit (Qaf (Qaf (Qaj (Qaa ?_))));refine wr (pN 1 k z λa k=>nn (wp_ret (fS h k m z z)))
 exact ⟨0,k.keep [0,1,7,8] z,m.sl [] z,h⟩
theorem Qcw (fu:Nat) {w0:World} (Aa:List Item) (f5:Item→Option Bool) {v2:Value} {F3:List Nat} (Ab:rd w0 F3 [v2] Aa) {v6:Value} (Ag:Qvg Tryz.prog w0 v6 f5) {r:Bool}
    (h:Qau fu Aa f5=some r) :
    Calls Tryz.prog 98 #[v2,v6] w0 λe w=>e=.returned (.bool (r))∧Ext [] w0 w:=by
 refine en (vs:=[_,_]) func98 z ntmps98 z λa k m=>?_;obtain ⟨Ai,Ak,rfl,Ac,Ad⟩:=Ag;unfold Qau at h;refine wr (pN 1 k z λa k=>nn (wr (pN 2 k z λa k=>oE h λAj Ah h=>cC k m call188 z (Qpj fu _ _ (m.r Ab) ⟨_,_,z,Ac,λw Af Ae r e=>Ad w Af Ae r (m.ext.trans e (by simp))⟩ Ah) λAl e a k m=>pN 2 k z λa k=>nn (wp_ret (fS h k m z z)))))
theorem Qzc (fu:Nat) {w0:World} (p1:Pair) (x2:Request) {v5:Value} {F6:List Nat} {v8:Value} {F9:List Nat} {Ad:Value} {Ae:List Nat} {b3:Nat} (Ab:bx w0 b3 (cR x2 v5 v8 Ad) 30) (Ai:rd w0 F6 [v5] x2.fT) (Aj:rd w0 F9 [v8] x2.fR) (Ag:rd w0 Ae [Ad] x2.fU) {r:Bool}
    (h:Qmz fu p1 x2=some r) :
    Calls Tryz.prog 212 #[.agg (Flat.e (p1)).toArray,pt b3] w0 λe w=>e=.returned (.bool (r))∧Ext [] w0 w:=by
 refine en (vs:=[_,_]) func212 z ntmps212 z λa k m=>?_;unfold Qmz at h;refine wr (Qbg (cs:=[I p1.fA,I p1.fB]) m k z z z z z z λAf Ah a k m e Ac=>pN 1 k z λa k=>nn (wr (fl Q0s t13 m 0 Ac k z z λa k=>sv k z (Qht Quc k z z) λa k=>sv k z (Qan t13 (r:=[]) (Ab.at (m.a00 Ab.lt1) 5 1 z z z) k z z) λa k=>pN 2 k z λa k=>Qam (decide (p1.fA≥x2.fG)) (λAa=>?_) (λAa=>?_))))
 · have h:=Qax Aa h;refine rB k 9 z Aa λk=>pN 7 k z λa k=>nn (wp_ret (fS h k m z z))
 have h:=Qav Aa h;refine rB k 9 z Aa λk=>fl Qz8 t13 m 0 Ac k z z λa k=>sv k z (Qht Quc k z z) λa k=>sv k z (Qan t13 (r:=[]) (Ab.at (m.a00 Ab.lt1) 5 1 z z z) k z z) λa k=>pN 3 k z λa k=>nn (wp_ret (fS h k m z z))
theorem Q17 (fu:Nat) {w0:World} (r1:Request) {Ap:List Value} {F3:List Nat} (Be:rd w0 F3 Ap r1) {r:Bool}
    (h:Qqk fu r1=some r) :
    Calls Tryz.prog 133 #[.agg Ap.toArray] w0 λe w=>e=.returned (.bool (r))∧Ext [] w0 w:=by
 refine en (vs:=[_]) func133 z ntmps133 z λa k m=>?_;obtain ⟨v5,F6,v7,F8,v9,Cl,rfl,rfl,Ai,Ab,Aa⟩:=Be;unfold Qqk at h;refine wr (Qbg (cs:=(cR r1 v5 v7 v9)) m k z z z z z z λAf Am a k m e Ac=>pN 1 k z λa k=>nn (wp_seq (wr (fl Qey Qve m 0 Ac k z z λa k=>sv k z (Qa2 (α:=Typ) Ab k underlying27 z z) λa k=>pN 1 k z λa k=>nn (wp_block (Qap (λn a w=>∃ (Al:Int),K 59 [(1,pt Af),(10,v7),(11,I (r1.fR.length:Int)),(12,I Al)] a∧St [] w0 w [([Af],Am)]∧Qfo fu r1 n Al=some r) ?_ ?_ fu _ _ ?_))))))
 · rintro a w ⟨_,_,_,h⟩;exact nS h
 · rintro Bz a Ca ⟨Al,k,m,h⟩;rw [Qfo.eq_2] at h;unfold Qmp at h;refine wr (pN 1 k z λa k=>nn (wp_seq (cI h k z (λBo h=>?_) λBo h=>?_)))
   · refine wp_skip (Qaa ?_);refine wp_seq (wp_block (wr (pN 1 k z λa k=>oE h λAg Aq h=>sv k z (Qak Ab Aq k Q4p z z z) λa k=>sv k z (Qir Ab (m.a00 (Enc.rd_lt Ab)) Aq Qub k z z) λa k=>Qar (cs:=[I 0,I 0,I 0,I 0,I 0,I 0,I 0]) m k zeroValue90 z z z z z λAu Cb a k m e Bk=>pN 1 k z λa k=>sT (cs':=[I Ag.qQ,I Ag.fW,I Ag.fH,I Ag.fD,I Ag.ft,I Ag.fQ,I Ag.fK]) sizeOf90 m 0 Bk 0 k z z λCp a k e m Bc=>nn (wr (fl Qey Qve m 1 Ac k z z λa k=>pN 1 k z λa k=>oE h λCs Bh h=>?_)))));refine Jb4 Ab Bh k Q4p z z z z z z λBp a k Ao=>pN 1 k z λa k=>oE h λBr Bf h=>cC k m call137 z (Qd9 fu _ _ (m.r Ao) ⟨210,[pt Au],z,call210,λw Bw Cg r e Az hx=>by subst Az; have m:=m.step e; exact Qy4 fu _ _ (Bc.agr (m.a 0 rfl) (by simp)) hx⟩ Bf) λBv e a k m=>nn (cI h k rfl (λAx h=>?_) λAx h=>?_)
     · refine wr (pN 1 k z λa k=>nn (wp_ret (Qag (Qad (Qad (Qag (Qad ?_)))))));refine fS h k m z z
     refine wp_skip (Qae (Qaa ?_));refine wp_region_lit (pN 2 k z λa k=>nn ?_);exact ⟨w64 (Al+1),k.keep [1,10,11,12] z,m.sl [1] z,h⟩
   refine wp_exit (Qaf (Qaf (Qaj (Qaa ?_))));refine wp_seq (wr (fl Qhj Qwo m 0 Ac k z z λa k=>sv k z (Qa2 (α:=Item) Aa k underlying28 z z) λa k=>pN 1 k z λa k=>nn (wp_block (Qap (λn a w=>∃ (Ah:Int),K 59 [(1,pt Af),(25,v9),(26,I (r1.fU.length:Int)),(27,I Ah)] a∧St [] w0 w [([Af],Am)]∧Qd1 fu r1 n Ah=some r) ?_ ?_ fu _ _ ?_))))
   · rintro a w ⟨_,_,_,h⟩;exact nS h
   · rintro Ay a Bs ⟨Ah,k,m,h⟩;rw [Qd1.eq_2] at h;unfold Qle at h;refine wr (pN 1 k z λa k=>nn (wp_seq (cI h k z (λBd h=>?_) λBd h=>?_)))
     · refine wp_skip (Qaa ?_);refine Qc1 (λa w=>K 59 [(1,pt Af),(25,v9),(26,I (r1.fU.length:Int)),(27,I Ah)] a∧St [] w0 w [([Af],Am)]∧Qps fu (Qd1 fu r1 Ay) Ah=some r) ?_ ?_
       · rintro a Ch ⟨k,m,h⟩;unfold Qps at h;refine wp_region_lit (pN 2 k z λa k=>nn ?_);exact ⟨w64 (Ah+1),k.keep [1,25,26,27] z,m.sl [0] z,h⟩
       refine wp_block (wr (pN 1 k z λa k=>oE h λAd Ar h=>sv k z (Qak Aa Ar k Q0b z z z) λa k=>sv k z (Qir Aa (m.a00 (Enc.rd_lt Aa)) Ar Qud k z z) λa k=>Qar (cs:=[I 0,I 0,I 0,I 0,I 0,I 0,I 0]) m k zeroValue113 z z z z z λBg Bt a k m e Ba=>pN 1 k z λa k=>sT (cs':=[I Ad.qQ,I Ad.fW,I Ad.fH,I Ad.fD,I Ad.fQ,I Ad.fL,I Ad.f0]) sizeOf113 m 0 Ba 0 k z z λCm a k e m At=>nn (wr (fl Qui t13 m 0 At k z z λa k=>?_))));refine fl Quc t13 m 1 Ac k z z λa k=>pN 2 k z λa k=>Qam (decide (Ad.fL≥r1.fG)) (λAj=>?_) (λAj=>?_)
       · have h:=Qax Aj h;refine rB k 37 z Aj λk=>pN 7 k z λa k=>nn (wp_cond_true (k.ev z) (wr (pN 1 k z λa k=>nn (wp_ret (Qag (Qad (Qad (Qag (Qad ?_)))))))));refine fS h k m z z
       have h:=Qav Aj h;refine rB k 37 z Aj λk=>fl Qhj Qwo m 1 Ac k z z λa k=>pN 1 k z λa k=>oE h λCr Aw h=>Jb4 Aa Aw k Q0b z z z z z z λCd a k As=>pN 1 k z λa k=>oE h λBq Bb h=>cC k m call98 z (Qcw fu _ _ (m.r As) ⟨211,[pt Bg],z,call211,λw Ck Cj r e Bm hx=>by subst Bm; have m:=m.step e; exact Qzh fu _ _ (At.agr (m.a 0 rfl) (by simp)) hx⟩ Bb) λBu e a k m=>pN 1 k rfl λa k=>nn (cI h k rfl (λBj h=>?_) λBj h=>?_)
       · refine wr (pN 1 k z λa k=>nn (wp_ret (Qag (Qad (Qad (Qag (Qad ?_)))))));refine fS h k m z z
       refine wp_skip (Qae (Qaa ?_));exact ⟨k.keep [1,25,26,27] z,m.sl [1] z,h⟩
     refine wp_exit (Qaf (Qaf (Qaj (Qaa ?_))));refine wr (sv k z (rL Qfg m 0 Ac 0 k z) λa k=>oE h λAe Bi h=>cC k m call131 z (Qtw fu _ (Qah (m.r Ai) (m.r Ab) (m.r Aa)) Bi) λBx e a k m=>pN 3 k z λa k=>Qar (cs:=[I 0,I 0,I 0,I 0,I 0,I 0,I 0]) m k zeroValue90 z z z z z λCf Cc a k m e Av=>?_);refine sT (cs':=[I Ae.1.qQ,I Ae.1.fW,I Ae.1.fH,I Ae.1.fD,I Ae.1.ft,I Ae.1.fQ,I Ae.1.fK]) sizeOf90 m 0 Av 0 k z z λBy a k e m Cn=>pN 1 k z λa k=>nn (wr (pN 2 k z λa k=>Qam (Ae.2) (λAk=>?_) (λAk=>?_)))
     · have h:=Qax Ak h;refine rB k 52 z Ak λk=>fl Qoe Q2s m 1 Ac k z z λa k=>pN 1 k z λa k=>oE h λCo Bl h=>cC k m call205 z (Qgz fu _ _ (m.r Ai) ⟨212,[pt Af],z,call212,λw Ce Ci r e Bn hx=>by subst Bn; have m:=m.step e; exact Qzc fu _ _ (Ac.agr (m.a 1 rfl) (by simp)) (m.r Ai) (m.r Ab) (m.r Aa) hx⟩ Bl) λCq e a k m=>pN 3 k rfl λa k=>nn (wp_ret (fS h k m rfl rfl))
     have h:=Qav Ak h;refine rB k 52 z Ak λk=>pN 7 k z λa k=>nn (wp_ret (fS h k m z z))
   exact ⟨0,k.keep [1,25,26,27] z,m.sl [0] z,h⟩
 exact ⟨0,k.keep [1,10,11,12] z,m.sl [0] z,h⟩
theorem Qre (fu:Nat) {w0:World} (Aa:List Pair) (v5:Pair) {v2:Value} {F3:List Nat} (Ac:rd w0 F3 [v2] Aa) {r:Int}
    (h:Qdv fu Aa v5=some r) :
    Calls Tryz.prog 259 #[v2,.agg (Flat.e (v5)).toArray] w0 λe w=>e=.returned (I r)∧Ext [] w0 w:=by
 refine en (vs:=[_,_]) func259 z ntmps259 z λa k m=>?_;unfold Qdv at h;refine wr (Qbg (cs:=[I v5.fA,I v5.fB]) m k z z z z z z λb6 w9 a k m e Af=>pN 1 k z λa k=>nn (wp_seq (wr (pN 1 k z λa k=>sv k z (Qa2 (α:=Pair) Ac k underlying26 z z) λa k=>pN 1 k z λa k=>nn (wp_block (Qap (λn a w=>∃ (Ab:Int),K 19 [(0,v2),(3,pt b6),(7,I (Aa.length:Int)),(8,I Ab)] a∧St [] w0 w [([b6],w9)]∧Qbi fu Aa v5 n Ab=some r) ?_ ?_ fu _ _ ?_))))))
 · rintro a w ⟨_,_,_,h⟩;exact nS h
 · rintro Aj a Ak ⟨Ab,k,m,h⟩;rw [Qbi.eq_2] at h;unfold Qc5 at h;refine wr (pN 1 k z λa k=>nn (wp_seq (cI h k z (λAh h=>?_) λAh h=>?_)))
   · refine wp_skip (Qaa ?_);refine wp_seq (wp_block (wr (pN 2 k z λa k=>nn (wp_seq (Qit [] Qip m z λAg hMd=>?_)))));have m:=hMd;have s:=Ext.refl ([]:List Nat) Ag;refine dM [1,2] 2 z k z s λa k=>dT k 0 z z s (λw s=>Qde Jdz (Af.at ((hMd.step s).a 0 z) 0 2 z z z) z k z z) λa k=>oE h λAi Ad h=>dT k 3 z z s (λw s=>Qak Ac Ad k Jde z z z) λa k=>dT k 4 z z s (λw s=>Qir Ac ((hMd.step s).a00 (Enc.rd_lt Ac)) Ad Jdz k z z) λa k=>dT k 5 z z s (λw s=>Jkp Jhy (x:=v5) (y:=Ai) k z z z z z) λa k=>dD ((Qaa ?_));refine cI h k z (λAe h=>?_) λAe h=>?_
     · refine wr (pN 2 k z λa k=>nn (wp_ret (Qag (Qad (Qad (Qag (Qad ?_)))))));refine fS h k m z z
     refine wp_skip (Qae (Qaa ?_));refine wp_region_lit (pN 2 k z λa k=>nn ?_);exact ⟨w64 (Ab+1),k.keep [0,3,7,8] z,m.sl [0] z,h⟩
   refine wp_exit (Qaf (Qaf (Qaj (Qaa ?_))));refine wr (pN 1 k z λa k=>nn (wp_ret (fS h k m z z)))
 exact ⟨0,k.keep [0,3,7,8] z,m.sl [0] z,h⟩
theorem Qpv (fu:Nat) {w0:World} (Aa:List Pair) (v5:Pair) {v2:Value} {F3:List Nat} (Ab:rd w0 F3 [v2] Aa) {r:Bool}
    (h:Qdd fu Aa v5=some r) :
    Calls Tryz.prog 251 #[v2,.agg (Flat.e (v5)).toArray] w0 λe w=>e=.returned (.bool (r))∧Ext [] w0 w:=by
 refine en (vs:=[_,_]) func251 z ntmps251 z λa k m=>?_;unfold Qdd at h;refine wr (Qbg (cs:=[I v5.fA,I v5.fB]) m k z z z z z z λb6 w9 a k m e Ac=>pN 1 k z λa k=>nn (wr (pN 1 k z λa k=>sv k z (rL Jdz m 0 Ac 0 k z) λa k=>oE h λAe Ad h=>cC k m call259 z (Qre fu _ (v5:Pair) (m.r Ab) Ad) λAf e a k m=>pN 2 k z λa k=>nn (wp_ret (fS h k m z z)))))
theorem Qrh (fu:Nat) {w0:World} (Aa:List Pair) (a5:Int) (b6:Int) {v2:Value} {F3:List Nat} (Ab:rd w0 F3 [v2] Aa) {r:Bool}
    (h:Qh4 fu Aa a5 b6=some r) :
    Calls Tryz.prog 213 #[v2,I a5,I b6] w0 λe w=>e=.returned (.bool (r))∧Ext [] w0 w:=by
 refine en (vs:=[_,_,_]) func213 z ntmps213 z λa k m=>?_;unfold Qh4 at h;refine wr (pN 1 k z λa k=>nn (wr (pN 3 k z λa k=>sv k z (Qa9 Q95 k (cs:=#[I a5,I b6]) (ps:=[(0,.tmp 8),(1,.tmp 9)]) z z (by kernel_rfl)) λa k=>oE h λx7 Ac h=>cC k m call251 z (Qpv fu _ (⟨a5,b6⟩:Pair) (m.r Ab) Ac) λAd e a k m=>pN 1 k z λa k=>nn (wp_ret (fS h k m z z)))))
theorem Q1y (fu:Nat) {w0:World} (Ad:List Pair) (Aa:Int) {v2:Value} {F3:List Nat} (Ac:rd w0 F3 [v2] Ad) {r:Bool}
    (h:Qp0 fu Ad Aa=some r) :
    Calls Tryz.prog 134 #[v2,I Aa] w0 λe w=>e=.returned (.bool (r))∧Ext [] w0 w:=by
 refine en (vs:=[_,_]) func134 z ntmps134 z λa k m=>?_;unfold Qp0 at h;refine wr (pN 1 k z λa k=>nn (wp_seq (wr (pN 1 k z λa k=>oE h λx6 Aj h=>cC k m call42 z (Qbn fu _ _ _  Aj) λw9 e a k m=>pN 1 k z λa k=>nn (cI h k z (λAh h=>?_) λAh h=>?_)))))
 · refine wr (pN 1 k z λa k=>nn (wp_ret (Qad ?_)));refine fS h k m z z
 refine wp_skip (Qaa ?_);refine wp_seq (wr (pN 2 k z λa k=>nn (wp_block (Qap (λn a w=>∃ (Ab:Int),K 34 [(0,v2),(1,I Aa),(10,I Aa),(11,I Ab)] a∧St [] w0 w []∧Qf3 fu Ad Aa n Ab=some r) ?_ ?_ fu _ _ ?_))))
 · rintro a w ⟨_,_,_,h⟩;exact nS h
 · rintro Ak a Ay ⟨Ab,k,m,h⟩;rw [Qf3.eq_2] at h;unfold Qld at h;refine wr (pN 1 k z λa k=>nn (wp_seq (cI h k z (λAg h=>?_) λAg h=>?_)))
   · refine wp_skip (Qaa ?_);refine wp_seq (wp_block (wr (pN 2 k z λa k=>nn (wp_seq (wr (pN 3 k z λa k=>oE h λAv Ai h=>cC k m call213 z (Qrh fu _ _ _ (m.r Ac) Ai) λAr e a k m=>pN 1 k z λa k=>nn (cI h k z (λAl h=>?_) λAl h=>?_)))))))
     · refine wr (pN 1 k z λa k=>nn (wp_ret (Qad (Qag (Qad (Qad (Qag (Qad ?_))))))));refine fS h k m z z
     refine wp_skip (Qaa ?_);refine wr (pN 2 k z λa k=>nn (wp_block (Qap (λn a w=>∃ (Ae:Int),K 34 [(0,v2),(1,I Aa),(5,I Ab),(10,I Aa),(11,I Ab),(19,I Aa),(20,I Ae)] a∧St [] w0 w []∧Qft fu (Qf3 fu Ad Aa Ak) Ad Aa Ab n Ae=some r) ?_ ?_ fu _ _ ?_)))
     · rintro a w ⟨_,_,_,h⟩;exact nS h
     · rintro Aq a Ax ⟨Ae,k,m,h⟩;rw [Qft.eq_2] at h;unfold Qk8 at h;refine wr (pN 1 k z λa k=>nn (wp_seq (cI h k z (λAf h=>?_) λAf h=>?_)))
       · refine wp_skip (Qaa ?_);refine wp_seq (wp_block (wr (pN 2 k z λa k=>nn (wr (pN 3 k z λa k=>oE h λAw Ap h=>cC k m call213 z (Qrh fu _ _ _ (m.r Ac) Ap) λAs e a k m=>pN 3 k z λa k=>oE h λAu Ao h=>cC k m call213 z (Qrh fu _ _ _ (m.r Ac) Ao) λAt e a k m=>sv k z (Jdx k underlying4 z z z) λa k=>nn (cI h k z (λAm h=>?_) λAm h=>?_))))))
         · refine wr (pN 1 k z λa k=>nn (wp_ret (Qag (Qad (Qad (Qag (Qag (Qad (Qad (Qag (Qad ?_)))))))))));refine fS h k m z z
         refine wp_skip (Qae (Qaa ?_));refine wp_region_lit (pN 2 k z λa k=>nn ?_);exact ⟨w64 (Ae+1),k.keep [0,1,5,10,11,19,20] z,m.sl [] z,h⟩
       refine wp_exit (Qaf (Qaf (Qaj (Qae (Qaa ?_)))));refine wp_region_lit (pN 2 k z λa k=>nn ?_);exact ⟨w64 (Ab+1),k.keep [0,1,10,11] z,m.sl [] z,h⟩
     exact ⟨0,k.keep [0,1,5,10,11,19,20] z,m.sl [] z,h⟩
   refine wp_exit (Qaf (Qaf (Qaj (Qaa ?_))));refine wr (pN 1 k z λa k=>nn (wp_ret (fS h k m z z)))
 exact ⟨0,k.keep [0,1,10,11] z,m.sl [] z,h⟩
theorem Qhm (fu:Nat) {w0:World} (x1:List Int) {v2:Value} {F3:List Nat} (Aa:ow w0 F3 [v2] x1) {r:List Int}
    (h:Qcl fu x1=some r) :
    Calls Tryz.prog 36 #[v2] w0 λe w=>∃ H:List Nat,e=.returned (.tuple #[])∧Ext F3 w0 w∧(∀ b∈H,b∈F3∨w0.heap.size≤b)∧ow w H [v2] r :=
  (Q9i (λblk off cap zs w=>Tryz.slices_Sort_int blk off cap zs w) (λp cap w=>Tryz.slices_Sort_int_none p cap w) x1 Aa h).mono λe w ⟨h1,h2,h3⟩=>⟨_,h1,h2,λb hb=>.inl hb,h3⟩
theorem Q0y (fu:Nat) {w0:World} (x1:Item) (t2:Typ)  {r:Bool}
    (h:Qsk fu x1 t2=some r) :
    Calls Tryz.prog 136 #[.agg (Flat.e (x1)).toArray,.agg (Flat.e (t2)).toArray] w0 λe w=>e=.returned (.bool (r))∧Ext [] w0 w:=by
 refine en (vs:=[_,_]) func136 z ntmps136 z λa k m=>?_;unfold Qsk at h;refine wr (Qbg (cs:=[I x1.qQ,I x1.fW,I x1.fH,I x1.fD,I x1.fQ,I x1.fL,I x1.f0]) m k z z z z z z λb3 w5 a k m e Af=>Qbg (cs:=[I t2.qQ,I t2.fW,I t2.fH,I t2.fD,I t2.ft,I t2.fQ,I t2.fK]) m k z z z z z z λb6 w9 a k m e Ag=>pN 1 k z λa k=>nn ?_);refine Qc1 (λa w=>∃ (Ai:List Int) (Ap:Value) (Ah:List Nat) (Al:World) (Ak:List Int) (Ao:Value) (Aj:List Nat) (Am:World),K 57 [(2,pt b3),(3,pt b6),(5,Ap),(6,Ao)] a∧St [] w0 w [([b3],w5),([b6],w9),(Ah,Al),(Aj,Am)]∧ow Al Ah [Ap] Ai∧ow Am Aj [Ao] Ak∧Qst fu x1 t2 Ai Ak=some r) ?_ ?_
 · rintro a Ck ⟨Ai,Ap,Ah,Al,Ak,Ao,Aj,Am,k,m,Cc,Be,h⟩;unfold Qst at h;refine wr (pN 1 k z λa k=>oE h λCf Bn h=>sC k call36 z (Qhm fu _ (m.v Cc 2 z) Bn) λCo Cl hR=>?_);obtain ⟨Cg,rfl,e,Bs,Aa⟩:=hR;refine ⟨_,z,λa k=>?_⟩;have m:=m.mut 2 z e _ (λb hb=>⟨Bs b hb,Enc.rd_lt (Enc.ow_rd Aa) b hb⟩) (Enc.ow_nd Aa);refine nn (wr (pN 1 k z λa k=>oE h λCn Cb h=>sC k call36 z (Qhm fu _ (m.v Be 3 z) Cb) λCq Cs hR=>?_));obtain ⟨Cu,rfl,e,Bh,Ab⟩:=hR;refine ⟨_,z,λa k=>?_⟩;have m:=m.mut 3 z e _ (λb hb=>⟨Bh b hb,Enc.rd_lt (Enc.ow_rd Ab) b hb⟩) (Enc.ow_nd Ab);refine nn (wp_seq (Qit [] Qip m z λBz hMd=>?_));have m:=hMd;have s:=Ext.refl ([]:List Nat) Bz
   refine dM [0,3] 2 z k z s λa k=>oE h λBv As h=>dT k 1 z z s (λw s=>Qak (Enc.ow_rd Aa) As k Qhf z z z) λa k=>dT k 2 z z s (λw s=>Qaq (Enc.ow_rd Aa) ((hMd.step s).a 2 z) As 0 t13 k z z z z) λa k=>oE h λCd Au h=>dT k 4 z z s (λw s=>Qak (Enc.ow_rd Ab) Au k Qhf z z z) λa k=>dT k 5 z z s (λw s=>Qaq (Enc.ow_rd Ab) ((hMd.step s).a 3 z) Au 0 t13 k z z z z) λa k=>dM [6,7] 2 z k z s λa k=>Qam (decide (Bv≤Cd)) (λAd=>?_) (λAd=>?_)
   · have h:=Qax Ad h;refine rB k 32 z Ad λk=>dM [8,11] 2 z k z s λa k=>oE h λBx Ay h=>dT k 9 z z s (λw s=>Qak (Enc.ow_rd Aa) Ay k Qhf z z z) λa k=>dT k 10 z z s (λw s=>Qaq (Enc.ow_rd Aa) ((hMd.step s).a 2 z) Ay 0 t13 k z z z z) λa k=>oE h λBy Av h=>dT k 12 z z s (λw s=>Qak (Enc.ow_rd Ab) Av k Qhf z z z) λa k=>dT k 13 z z s (λw s=>Qaq (Enc.ow_rd Ab) ((hMd.step s).a 3 z) Av 0 t13 k z z z z) λa k=>dM [14,15,16] 3 z k z s λa k=>Qam (decide (Bx≤By)) (λAc=>?_) (λAc=>?_)
     · have h:=Qax Ac h;refine rB k 41 z Ac λk=>dM [17,20] 2 z k z s λa k=>oE h λBm Ax h=>dT k 18 z z s (λw s=>Qak (Enc.ow_rd Aa) Ax k Qhf z z z) λa k=>dT k 19 z z s (λw s=>Qaq (Enc.ow_rd Aa) ((hMd.step s).a 2 z) Ax 0 t13 k z z z z) λa k=>oE h λBl Aw h=>dT k 21 z z s (λw s=>Qak (Enc.ow_rd Ab) Aw k Qhf z z z) λa k=>dT k 22 z z s (λw s=>Qaq (Enc.ow_rd Ab) ((hMd.step s).a 3 z) Aw 0 t13 k z z z z) λa k=>dM [23,24,25] 3 z k z s λa k=>Qam (decide (Bm≤Bl)) (λAe=>?_) (λAe=>?_)
       · have h:=Qax Ae h;refine rB k 50 z Ae λk=>dF k 26 Qvn z s λa k=>dT k 27 z z s (λw s=>Qan t13 (r:=[]) (Af.at ((hMd.step s).a 0 z) 4 1 z z z) k z z) λa k=>dF k 28 Qwe z s λa k=>dT k 29 z z s (λw s=>Qan t13 (r:=[]) (Ag.at ((hMd.step s).a 1 z) 5 1 z z z) k z z) λa k=>dM [30,31,32] 3 z k z s λa k=>dD ?_;have k:=k.keep [4] z;refine (Qaa ?_);refine wp_ret (fS h k m z z)
       have h:=Qav Ae h;refine rB k 50 z Ae λk=>dM [26,27,28,29,30,31,32] 7 z k z s λa k=>dD ?_;have k:=k.keep [4] z;refine (Qaa ?_);refine wp_ret (fS h k m z z)
     have h:=Qav Ac h;refine rB k 41 z Ac λk=>dM [17,18,19,20,21,22,23,24,25,26,27,28,29,30,31,32] 16 z k z s λa k=>dD ?_;have k:=k.keep [4] z;refine (Qaa ?_);refine wp_ret (fS h k m z z)
   have h:=Qav Ad h;refine rB k 32 z Ad λk=>dM [8,9,10,11,12,13,14,15,16,17,18,19,20,21,22,23,24,25,26,27,28,29,30,31,32] 25 z k z s λa k=>dD ?_;have k:=k.keep [4] z;refine (Qaa ?_);refine wp_ret (fS h k m z z)
 refine Qit [] Qip m z λBg hMd=>?_;have m:=hMd;have s:=Ext.refl ([]:List Nat) Bg;refine dF k 0 Qww z s λa k=>dT k 1 z z s (λw s=>Qan t13 (r:=[]) (Af.at ((hMd.step s).a 1 z) 1 1 z z z) k z z) λa k=>dF k 2 Qwx z s λa k=>dT k 3 z z s (λw s=>Qan t13 (r:=[]) (Af.at ((hMd.step s).a 1 z) 2 1 z z z) k z z) λa k=>dF k 4 Qvf z s λa k=>dT k 5 z z s (λw s=>Qan t13 (r:=[]) (Af.at ((hMd.step s).a 1 z) 3 1 z z z) k z z) λa k=>?_;refine dF k 7 Qvw z s λa k=>dT k 8 z z s (λw s=>Qan t13 (r:=[]) (Ag.at ((hMd.step s).a 0 z) 1 1 z z z) k z z) λa k=>dF k 9 Qu1 z s λa k=>dT k 10 z z s (λw s=>Qan t13 (r:=[]) (Ag.at ((hMd.step s).a 0 z) 2 1 z z z) k z z) λa k=>dF k 11 Qvq z s λa k=>dT k 12 z z s (λw s=>Qan t13 (r:=[]) (Ag.at ((hMd.step s).a 0 z) 3 1 z z z) k z z) λa k=>Qmo 6 13 (by kernel_rfl) z z ?_ ?_
 · refine Qdu (cs:=[I x1.fW,I x1.fH,I x1.fD]) (ps:=[(0,.tmp 8),(1,.tmp 10),(2,.tmp 12)]) Qb4 m k z z z z z z z (by decide) z (by exact fC z (fC z (fC z fN))) λAr Bj Ch a k m e Bp Bi=>?_;have Cm:=lo1 (Nat.le_trans s.size Bi);have Bd:=Qa5 Bp ([x1.fW,x1.fH,x1.fD]:List Int) z z z;refine ns s e λs=>?_;refine dM [14] 1 z k z s λa k=>dO 13 z (Qdu (cs:=[I t2.fW,I t2.fH,I t2.fD]) (ps:=[(0,.tmp 15),(1,.tmp 17),(2,.tmp 19)]) Qb4 m k z z z z z z z (by decide) z (by exact fC z (fC z (fC z fN))) λAq Ca Ci a k m e Bw Br=>?_);have Ce:=lo1 (Nat.le_trans s.size Br);have Bo:=Qa5 Bw ([t2.fW,t2.fH,t2.fD]:List Int) z z z;refine ns s e λs=>?_;refine dM [15] 1 z k z s λa k=>dD ((Qaa ?_));exact ⟨([x1.fW,x1.fH,x1.fD]:List Int),(.slice (some ⟨Ar,0,none⟩) 3 3),[Ar],Bj,([t2.fW,t2.fH,t2.fD]:List Int),(.slice (some ⟨Aq,0,none⟩) 3 3),[Aq],Ca,k.keep [2,3,5,6] z,m.sl [3,2,1,0] z,Bd,Bo,h⟩
 refine Qdu (cs:=[I t2.fW,I t2.fH,I t2.fD]) (ps:=[(0,.tmp 15),(1,.tmp 17),(2,.tmp 19)]) Qb4 m k z z z z z z z (by decide) z (by exact fC z (fC z (fC z fN))) λAt Bq Cj a k m e Bt Bu=>?_;have Ct:=lo1 (Nat.le_trans s.size Bu);have Bb:=Qa5 Bt ([t2.fW,t2.fH,t2.fD]:List Int) z z z;refine ns s e λs=>?_;refine dO 6 z (Qdu (cs:=[I x1.fW,I x1.fH,I x1.fD]) (ps:=[(0,.tmp 8),(1,.tmp 10),(2,.tmp 12)]) Qb4 m k z z z z z z z (by decide) z (by exact fC z (fC z (fC z fN))) λAz Bf Cp a k m e Ba Bc=>?_);have Cr:=lo1 (Nat.le_trans s.size Bc);have Bk:=Qa5 Ba ([x1.fW,x1.fH,x1.fD]:List Int) z z z;refine ns s e λs=>?_;refine dM [14,15] 2 z k z s λa k=>dD ((Qaa ?_));exact ⟨([x1.fW,x1.fH,x1.fD]:List Int),(.slice (some ⟨Az,0,none⟩) 3 3),[Az],Bf,([t2.fW,t2.fH,t2.fD]:List Int),(.slice (some ⟨At,0,none⟩) 3 3),[At],Bq,k.keep [2,3,5,6] z,m.sl [3,2,0,1] z,Bk,Bb,h⟩
theorem Q1r (fu:Nat) {w0:World} (x1:Item) (x2:Typ) {b3:Nat} (Aa:bx w0 b3 [I x2.qQ,I x2.fW,I x2.fH,I x2.fD,I x2.ft,I x2.fQ,I x2.fK] 90) {r:Bool}
    (h:Qpz fu x1 x2=some r) :
    Calls Tryz.prog 135 #[.agg (Flat.e (x1)).toArray,pt b3] w0 λe w=>e=.returned (.bool (r))∧Ext [] w0 w:=by
 refine en (vs:=[_,_]) func135 z ntmps135 z λa k m=>?_;unfold Qpz at h;refine wr (Qbg (cs:=[I x1.qQ,I x1.fW,I x1.fH,I x1.fD,I x1.fQ,I x1.fL,I x1.f0]) m k z z z z z z λb5 w7 a k m e Ab=>pN 1 k z λa k=>nn (wr (sv k z (rL Qud m 0 Ab 0 k z) λa k=>sv k z (Qde Qub (Aa.at (m.a00 Aa.lt1) 0 7 z z z) z k z z) λa k=>oE h λx8 Ac h=>cC k m call136 z (Q0y fu (x1:Item) (x2:Typ)  Ac) λAd e a k m=>pN 2 k z λa k=>nn (wp_ret (fS h k m z z)))))
theorem Q2e (fu:Nat) {w0:World} (t1:Typ) (x2:Pallet) {b3:Nat} (Aa:bx w0 b3 [I x2.fW,I x2.fD,I x2.fH,I x2.fQ] 25) {r:Bool}
    (h:Qqf fu t1 x2=some r) :
    Calls Tryz.prog 138 #[.agg (Flat.e (t1)).toArray,pt b3] w0 λe w=>e=.returned (.bool (r))∧Ext [] w0 w:=by
 refine en (vs:=[_,_]) func138 z ntmps138 z λa k m=>?_;unfold Qqf at h;refine wr (Qbg (cs:=[I t1.qQ,I t1.fW,I t1.fH,I t1.fD,I t1.ft,I t1.fQ,I t1.fK]) m k z z z z z z λb5 w7 a k m e Ae=>pN 1 k z λa k=>nn (wr (fl Qvw t13 m 0 Ae k z z λa k=>sv k z (Qht Qwg k z z) λa k=>sv k z (Qan t13 (r:=[]) (Aa.at (m.a00 Aa.lt1) 0 1 z z z) k z z) λa k=>pN 2 k z λa k=>Qam (decide (t1.fW>x2.fW)) (λAd=>?_) (λAd=>?_))))
 · have h:=Qax Ad h;refine rB k 9 z Ad λk=>pN 24 k z λa k=>?_;have k:=k.keep [3] z;refine nn (wp_ret (fS h k m z z))
 have h:=Qav Ad h;refine rB k 9 z Ad λk=>fl Qvq t13 m 0 Ae k z z λa k=>sv k z (Qht Qu3 k z z) λa k=>sv k z (Qan t13 (r:=[]) (Aa.at (m.a00 Aa.lt1) 1 1 z z z) k z z) λa k=>pN 3 k z λa k=>Qam (decide (t1.fD>x2.fD)) (λAc=>?_) (λAc=>?_)
 · have h:=Qax Ac h;refine rB k 16 z Ac λk=>pN 17 k z λa k=>?_;have k:=k.keep [3] z;refine nn (wp_ret (fS h k m z z))
 have h:=Qav Ac h;refine rB k 16 z Ac λk=>fl Qu1 t13 m 0 Ae k z z λa k=>sv k z (Qht Qu5 k z z) λa k=>sv k z (Qan t13 (r:=[]) (Aa.at (m.a00 Aa.lt1) 2 1 z z z) k z z) λa k=>pN 3 k z λa k=>Qam (decide (t1.fH>x2.fH)) (λAb=>?_) (λAb=>?_)
 · have h:=Qax Ab h;refine rB k 23 z Ab λk=>pN 10 k z λa k=>?_;have k:=k.keep [3] z;refine nn (wp_ret (fS h k m z z))
 have h:=Qav Ab h;refine rB k 23 z Ab λk=>fl Q2v t13 m 0 Ae k z z λa k=>fl Qwe t13 m 0 Ae k z z λa k=>pN 1 k z λa k=>sv k z (Qht Qsz k z z) λa k=>sv k z (Qan t13 (r:=[]) (Aa.at (m.a00 Aa.lt1) 3 1 z z z) k z z) λa k=>pN 3 k z λa k=>?_;have k:=k.keep [3] z;refine nn (wp_ret (fS h k m z z))
theorem Q5r (fu:Nat) {w0:World} (r1:Request) {Af:List Value} {F3:List Nat} (Ao:rd w0 F3 Af r1) {r:Int}
    (h:Qsw fu r1=some r) :
    Calls Tryz.prog 62 #[.agg Af.toArray] w0 λe w=>e=.returned (I r)∧Ext [] w0 w:=by
 refine en (vs:=[_]) func62 z ntmps62 z λa k m=>?_;obtain ⟨v5,F6,v7,F8,v9,Bu,rfl,rfl,Ad,Ac,Aa⟩:=Ao;unfold Qsw at h;refine wr (Qbg (cs:=(cR r1 v5 v7 v9)) m k z z z z z z λBi Bb a k m e Ab=>pN 1 k z λa k=>nn (wr (sv k z (rL Qfg m 0 Ab 0 k z) λa k=>oE h λAe Ax h=>cC k m call131 z (Qtw fu _ (Qah (m.r Ad) (m.r Ac) (m.r Aa)) Ax) λBg e a k m=>?_)));refine pN 3 k z λa k=>Qar (cs:=[I 0,I 0,I 0,I 0,I 0,I 0,I 0]) m k zeroValue90 z z z z z λAh Bc a k m e Aj=>sT (cs':=[I Ae.1.qQ,I Ae.1.fW,I Ae.1.fH,I Ae.1.fD,I Ae.1.ft,I Ae.1.fQ,I Ae.1.fK]) sizeOf90 m 0 Aj 0 k z z λBh a k e m Az=>pN 1 k z λa k=>nn (wr (sv k z (Qht Qt3 k z z) λa k=>sv k z (rL Qxu m 1 Ab 1 k z) λa k=>Qar (cs:=[I 0,I 0,I 0,I 0]) m k zeroValue25 z z z z z λAy Bk a k m e Aw=>?_))
 refine sT (cs':=[I r1.fJ.fW,I r1.fJ.fD,I r1.fJ.fH,I r1.fJ.fQ]) sizeOf25 m 0 Aw 0 k z z λBr a k e m Am=>nn (wp_seq (wp_block (wr (sv k z (rL Qfg m 2 Ab 0 k z) λa k=>oE h λBj Ap h=>cC k m call132 z (Q02 fu _ (Qah (m.r Ad) (m.r Ac) (m.r Aa)) Ap) λBs e a k m=>pN 2 k z λa k=>nn ?_))));refine cI h k z (λAi h=>?_) λAi h=>?_
 · refine wr (pN 1 k z λa k=>nn (wp_ret (Qag (Qad ?_))));refine fS h k m z z
 refine wr (sv k z (rL Qfg m 2 Ab 0 k z) λa k=>oE h λBn Aq h=>cC k m call133 z (Q17 fu _ (Qah (m.r Ad) (m.r Ac) (m.r Aa)) Aq) λBl e a k m=>pN 2 k z λa k=>nn (cI h k z (λAr h=>?_) λAr h=>?_))
 · refine wr (pN 1 k z λa k=>nn (wp_ret (Qag (Qad ?_))));refine fS h k m z z
 refine wr (fl Qoe Q2s m 2 Ab k z z λa k=>fl Quc t13 m 2 Ab k z z λa k=>oE h λBt Ag h=>cC k m call134 z (Q1y fu _ _ (m.r Ad) Ag) λBm e a k m=>pN 2 k z λa k=>?_);have k:=k.keep [1,3,5,21] z;refine nn (cI h k z (λAl h=>?_) λAl h=>?_)
 · refine wr (pN 1 k z λa k=>nn (wp_ret (Qag (Qad ?_))));refine fS h k m z z
 refine wr (fl Qhj Qwo m 2 Ab k z z λa k=>pN 1 k z λa k=>oE h λBf Av h=>cC k m call98 z (Qcw fu _ _ (m.r Aa) ⟨135,[pt Ah],z,call135,λw Bo Bp r e Au hx=>by subst Au; have m:=m.step e; exact Q1r fu _ _ (Az.agr (m.a 1 rfl) (by simp)) hx⟩ Av) λBw e a k m=>pN 1 k rfl λa k=>nn (cI h k rfl (λAs h=>?_) λAs h=>?_))
 · refine wr (pN 1 k z λa k=>nn (wp_ret (Qag (Qad ?_))));refine fS h k m z z
 refine wr (fl Qey Qve m 2 Ab k z z λa k=>pN 1 k z λa k=>oE h λBq At h=>cC k m call137 z (Qd9 fu _ _ (m.r Ac) ⟨138,[pt Ay],z,call138,λw Be Bd r e Ak hx=>by subst Ak; have m:=m.step e; exact Q2e fu _ _ (Am.agr (m.a 0 rfl) (by simp)) hx⟩ At) λBv e a k m=>pN 1 k rfl λa k=>nn (cI h k rfl (λBa h=>?_) λBa h=>?_))
 · refine wr (pN 1 k z λa k=>nn (wp_ret (Qag (Qad ?_))));refine fS h k m z z
 refine wp_skip (Qae (Qaa ?_));refine wr (pN 1 k z λa k=>nn (wp_ret (fS h k m z z)))
theorem Qi6 (fu:Nat) {w0:World} (r1:Request) {Ad:List Value} {F3:List Nat} (Ae:rd w0 F3 Ad r1) {r:Bool}
    (h:Qfq fu r1=some r) :
    Calls Tryz.prog 21 #[.agg Ad.toArray] w0 λe w=>e=.returned (.bool (r))∧Ext [] w0 w:=by
 refine en (vs:=[_]) func21 z ntmps21 z λa k m=>?_;obtain ⟨v5,F6,v7,F8,v9,Ai,rfl,rfl,Aa,Ab,Ac⟩:=Ae;unfold Qfq at h;refine wr (Qbg (cs:=(cR r1 v5 v7 v9)) m k z z z z z z λAh Aj a k m e Af=>pN 1 k z λa k=>nn (wr (sv k z (rL Qfg m 0 Af 0 k z) λa k=>oE h λAk Ag h=>cC k m call62 z (Q5r fu _ (Qah (m.r Aa) (m.r Ab) (m.r Ac)) Ag) λAl e a k m=>?_)));refine pN 2 k z λa k=>nn (wp_ret (fS h k m z z))
theorem Qil (fu:Nat) {w0:World} (Ab:List Int) {v2:Value} {F3:List Nat} (Aa:rd w0 F3 [v2] Ab) {r:(List Int)}
    (h:Qdc fu Ab=some r) :
    Calls Tryz.prog 217 #[v2] w0 λe w=>∃ (v0:Value) (G0:List Nat),e=.returned (v0)∧Ext [] w0 w∧ow w G0 [v0] r∧(∀ b∈G0,w0.heap.size≤b):=by
 refine en (vs:=[_]) func217 z ntmps217 z λa k m=>?_;unfold Qdc at h;refine wr (pN 1 k z λa k=>nn (wp_seq (wr (pN 1 k z λa k=>?_))));obtain ⟨Ak,Ag,Ah⟩:=Ji0 Aa;refine sv k z (Ah k underlying41 z z z) λa k=>nn (Jea (b:=Ak) k z (λAc=>?_) (λAc=>?_))
 · have Aj:=Ag Ac;rw [Aj] at h;have h:some (([]:List Int))=some r:=h;refine wr (pN 1 k z λa k=>nn (wp_ret (Qad ?_)));cases h;exact Qct k z (RV.tmp k z) ⟨_,[],z,m.ext,(Qe7 _),(by simp)⟩
 refine wp_skip (Qaa ?_);refine wr (sB (cs:=[]) (ps:=[]) Qb4 m k z (by exact fN) λAr Ao Ap a k m e Ai=>?_);have Al:=Qa5 Ai ([]:List Int) z z z;refine pN 1 k z λa k=>oE h λAs Ad h=>Qfr Ad Qb4 z m 0 Al (News.rd (m.r Aa)) z z k z z z z z z z λAq Af Am a k e m Ae=>pN 1 k z λa k=>nn (wp_ret ?_);cases h;exact Qct k z (RV.tmp k z) ⟨_,Af,z,m.ext,(m.v Ae 0 z),(m.fresh 0 z)⟩
theorem Que (fu:Nat) {w0:World} (x1:List Int) {v2:Value} {F3:List Nat} (Aa:ow w0 F3 [v2] x1) {r:List Int}
    (h:Qkn fu x1=some r) :
    Calls Tryz.prog 218 #[v2] w0 λe w=>∃ (v0:Value) (G0:List Nat),e=.returned v0∧Ext F3 w0 w∧ow w G0 [v0] r∧(∀ b∈G0,b∈F3∨w0.heap.size≤b) :=
  Q43 (λblk off cap zs w=>Tryz.slices_Compact_int blk off cap zs w) (λp cap w=>Tryz.slices_Compact_int_empty p cap w) x1 Aa h
theorem Qyz (fu:Nat) {w0:World} (Ad:List Int) {v2:Value} {F3:List Nat} (Ae:rd w0 F3 [v2] Ad) {r:(List Int)}
    (h:Qk0 fu Ad=some r) :
    Calls Tryz.prog 141 #[v2] w0 λe w=>∃ (v0:Value) (G0:List Nat),e=.returned (v0)∧Ext [] w0 w∧ow w G0 [v0] r∧(∀ b∈G0,w0.heap.size≤b):=by
 refine en (vs:=[_]) func141 z ntmps141 z λa k m=>?_;unfold Qk0 at h;refine wr (pN 1 k z λa k=>nn (wr (pN 1 k z λa k=>oE h λx5 Am h=>sC k call217 z (Qil fu _ (m.r Ae) Am) λe7 w9 hR=>?_)));obtain ⟨At,Al,rfl,e,Ab,Af⟩:=hR;refine ⟨_,z,λa k=>?_⟩;have m:=m.nw e Af Ab;refine pN 1 k z λa k=>nn (wr (pN 1 k z λa k=>oE h λAw Ak h=>sC k call36 z (Qhm fu _ (m.v Ab 0 z) Ak) λAv Ap hR=>?_));obtain ⟨Au,rfl,e,Ai,Aa⟩:=hR;refine ⟨_,z,λa k=>?_⟩;have m:=m.mut 0 z e _ (λb hb=>⟨Ai b hb,Enc.rd_lt (Enc.ow_rd Aa) b hb⟩) (Enc.ow_nd Aa);refine nn (wr (pN 1 k z λa k=>oE h λAo Ah h=>sC k call218 z (Que fu _ (m.v Aa 0 z) Ah) λAr Aq hR=>?_));obtain ⟨As,Ag,rfl,e,Ac,Aj⟩:=hR;refine ⟨_,z,λa k=>?_⟩;have m:=m.mut 0 z e _ (λb hb=>⟨Aj b hb,Enc.rd_lt (Enc.ow_rd Ac) b hb⟩) (Enc.ow_nd Ac);refine pN 1 k z λa k=>nn (wp_ret ?_);cases h;exact Qct k z (RV.tmp k z) ⟨_,Ag,z,m.ext,(m.v Ac 0 z),(m.fresh 0 z)⟩
theorem Q2j (fu:Nat) {w0:World} (r1:Request) {Ai:List Value} {F3:List Nat} (Bi:rd w0 F3 Ai r1) {r:(List Int)}
    (h:Qqm fu r1=some r) :
    Calls Tryz.prog 67 #[.agg Ai.toArray] w0 λe w=>∃ (v0:Value) (G0:List Nat),e=.returned (v0)∧Ext [] w0 w∧ow w G0 [v0] r∧(∀ b∈G0,w0.heap.size≤b):=by
 refine en (vs:=[_]) func67 z ntmps67 z λa k m=>?_;obtain ⟨v5,F6,v7,F8,v9,By,rfl,rfl,Ap,Am,Ab⟩:=Bi;unfold Qqm at h;refine wr (Qbg (cs:=(cR r1 v5 v7 v9)) m k z z z z z z λBt Bl a k m e Al=>pN 1 k z λa k=>nn (wp_seq (wr (sv k z (rL Qfg m 0 Al 0 k z) λa k=>oE h λBm Bh h=>cC k m call21 z (Qi6 fu _ (Qah (m.r Ap) (m.r Am) (m.r Ab)) Bh) λBq e a k m=>?_))));refine pN 1 k z λa k=>nn (cI h k z (λAz h=>?_) λAz h=>?_)
 · refine wr (pN 1 k z λa k=>nn (wp_ret (Qad ?_)));cases h;exact Qct k z (RV.tmp k z) ⟨_,[],z,m.ext,(Qe7 _),(by simp)⟩
 refine wp_skip (Qaa ?_);refine wr (sB (cs:=[]) (ps:=[]) Qb4 m k z (by exact fN) λAo At Bv a k m e Be=>?_);have Ax:=Qa5 Be ([]:List Int) z z z;refine pN 1 k z λa k=>nn (wp_seq (wr (fl Qhj Qwo m 1 Al k z z λa k=>sv k z (Qa2 (α:=Item) Ab k underlying28 z z) λa k=>pN 1 k z λa k=>nn (wp_block (Qap (λn a w=>∃ (Ah:List Int) (Ad:Value) (Ag:List Nat) (Ae:World) (Ac:Int),K 25 [(3,Ad),(11,v9),(12,I (r1.fU.length:Int)),(13,I Ac)] a∧St [] w0 w [(Ag,Ae)]∧ow Ae Ag [Ad] Ah∧Qg4 fu r1 n Ah Ac=some r) ?_ ?_ fu _ _ ?_)))))
 · rintro a w ⟨_,_,_,_,_,_,_,_,h⟩;exact nS h
 · rintro Bw a Bs ⟨Ah,Ad,Ag,Ae,Ac,k,m,Aj,h⟩;rw [Qg4.eq_2] at h;unfold Qmh at h;refine wr (pN 1 k z λa k=>nn (wp_seq (cI h k z (λBb h=>?_) λBb h=>?_)))
   · refine wp_skip (Qaa ?_);refine wp_seq (wp_block (wr (oE h λAa Ak h=>sv k z (Qak Ab Ak k Q0b z z z) λa k=>sv k z (Qir Ab (m.a00 (Enc.rd_lt Ab)) Ak Qud k z z) λa k=>Qar (cs:=[I 0,I 0,I 0,I 0,I 0,I 0,I 0]) m k zeroValue113 z z z z z λBp Ca a k m e Au=>sT (cs':=[I Aa.qQ,I Aa.fW,I Aa.fH,I Aa.fD,I Aa.fQ,I Aa.fL,I Aa.f0]) sizeOf113 m 0 Au 0 k z z λBu a k e m Bd=>nn (wp_region_lit (pN 1 k z λa k=>fl Qui t13 m 0 Bd k z z λa k=>?_)))));refine sB (cs:=[I Aa.fL]) (ps:=[(0,.tmp 19)]) Qb4 m k z (by exact fC z fN) λBk Bz Br a k m e Bf=>?_;have As:=Qa5 Bf ([Aa.fL]:List Int) z z z;refine oE h λAr Ay h=>Qfr Ay Qb4 z m 2 Aj (News.rd (m.q As 0 z)) z z k z z z z z z z λBa Bc Bg a k e m Av=>pN 1 k z λa k=>wpList_nil (Qae (Qaa ?_));refine wp_region_lit (pN 2 k z λa k=>nn ?_);exact ⟨Ar,Ba,Bc,Bg,w64 (Ac+1),k.keep [3,11,12,13] z,m.sl [2] z,Av,h⟩
   refine wp_exit (Qaf (Qaf (Qaj (Qaa ?_))));refine wr (pN 1 k z λa k=>oE h λBn Aw h=>sC k call141 z (Qyz fu _ (m.q Aj 0 z) Aw) λCb Bx hR=>?_);obtain ⟨Bo,Aq,rfl,e,Af,Bj⟩:=hR;refine ⟨_,z,λa k=>?_⟩;have m:=m.nw e Bj Af;refine pN 1 k z λa k=>nn (wp_ret ?_);cases h;exact Qct k z (RV.tmp k z) ⟨_,Aq,z,m.ext,(m.v Af 0 z),(m.fresh 0 z)⟩
 exact ⟨([]:List Int),(.slice (some ⟨Ao,0,none⟩) 0 0),[Ao],At,0,k.keep [3,11,12,13] z,m.sl [0] z,Ax,h⟩
theorem Q4a (fu:Nat) {w0:World} (Ac:List Pair) (a5:Int) (b6:Int) {v2:Value} {F3:List Nat} (Ab:rd w0 F3 [v2] Ac) {r:Bool}
    (h:Qrq fu Ac a5 b6=some r) :
    Calls Tryz.prog 145 #[v2,I a5,I b6] w0 λe w=>e=.returned (.bool (r))∧Ext [] w0 w:=by
 refine en (vs:=[_,_,_]) func145 z ntmps145 z λa k m=>?_;unfold Qrq at h;refine wr (pN 1 k z λa k=>nn (wr (pN 3 k z λa k=>oE h λx7 Ae h=>cC k m call213 z (Qrh fu _ _ _ (m.r Ab) Ae) λAf e a k m=>pN 1 k z λa k=>Qam (x7) (λAa=>?_) (λAa=>?_))))
 · have h:=Qax Aa h;refine rB k 11 z Aa λk=>pN 3 k z λa k=>oE h λAh Ad h=>cC k m call213 z (Qrh fu _ _ _ (m.r Ab) Ad) λAg e a k m=>pN 2 k z λa k=>nn (wp_ret (fS h k m z z))
 have h:=Qav Aa h;refine rB k 11 z Aa λk=>pN 6 k z λa k=>nn (wp_ret (fS h k m z z))
theorem Qx4 (fu:Nat) {w0:World} (x1:Int) (x2:List Pair) (x8:Int) {v5:Value} {F6:List Nat} {b3:Nat} (Ab:bx w0 b3 [v5] 26) (Aa:rd w0 F6 [v5] x2) {b9:Nat} (Ac:bx w0 b9 [I x8] 3) {r:Bool}
    (h:Qj8 fu x1 x2 x8=some r) :
    Calls Tryz.prog 144 #[I x1,pt b3,pt b9] w0 λe w=>e=.returned (.bool (r))∧Ext [] w0 w:=by
 refine en (vs:=[_,_,_]) func144 z ntmps144 z λa k m=>?_;unfold Qj8 at h;refine wr (pN 1 k z λa k=>nn (wr (sv k z (Qan Q2s (r:=[]) (Ab.at (m.a00 Ab.lt1) 0 1 z z z) k z z) λa k=>sv k z (Qan t13 (r:=[]) (Ac.at (m.a00 Ac.lt1) 0 1 z z z) k z z) λa k=>pN 1 k z λa k=>oE h λAf Ad h=>cC k m call145 z (Q4a fu _ _ _ (m.r Aa) Ad) λAe e a k m=>pN 2 k z λa k=>nn (wp_ret (fS h k m z z)))))
theorem Qpu (fu:Nat) {w0:World} (Ac:List Int) (f5:Int→Option Bool) {v2:Value} {F3:List Nat} (Aa:rd w0 F3 [v2] Ac) {v6:Value} (Aj:Qvg Tryz.prog w0 v6 f5) {r:Int}
    (h:Qdq fu Ac f5=some r) :
    Calls Tryz.prog 107 #[v2,v6] w0 λe w=>e=.returned (I r)∧Ext [] w0 w:=by
 refine en (vs:=[_,_]) func107 z ntmps107 z λa k m=>?_;obtain ⟨Ae,Ah,rfl,Af,Ag⟩:=Aj;unfold Qdq at h;refine wr (pN 1 k z λa k=>nn (wp_seq (wr (pN 1 k z λa k=>sv k z (Qa2 (α:=Int) Aa k underlying41 z z) λa k=>pN 1 k z λa k=>nn (wp_block (Qap (λn a w=>∃ (Ab:Int),K 19 [(0,v2),(1,(.func (.func Ae) #[] Ah.toArray)),(7,I (Ac.length:Int)),(8,I Ab)] a∧St [] w0 w []∧Qcg fu Ac f5 n Ab=some r) ?_ ?_ fu _ _ ?_))))))
 · rintro a w ⟨_,_,_,h⟩;exact nS h
 · rintro Aq a Ar ⟨Ab,k,m,h⟩;rw [Qcg.eq_2] at h;unfold Qeo at h;refine wr (pN 1 k z λa k=>nn (wp_seq (cI h k z (λAk h=>?_) λAk h=>?_)))
   · refine wp_skip (Qaa ?_);refine wp_seq (wp_block (wr (pN 2 k z λa k=>nn (wr (pN 3 k z λa k=>oE h λAo Ad h=>sv k z (Qak Aa Ad k Qhf z z z) λa k=>sv k z (Qaq Aa (m.a00 (Enc.rd_lt Aa)) Ad 0 t13 k z z z z) λa k=>oE h λAm Ai h=>Qtm k Af z z z z z z (Ag _ _ _ _ m.ext z Ai) λAp As hR=>?_)))));obtain ⟨rfl,e⟩:=hR;refine ⟨_,z,λa k=>?_⟩;have m:=m.step e;refine nn (cI h k z (λAl h=>?_) λAl h=>?_)
     · refine wr (pN 2 k z λa k=>nn (wp_ret (Qag (Qad (Qad (Qag (Qad ?_)))))));refine fS h k m z z
     refine wp_skip (Qae (Qaa ?_));refine wp_region_lit (pN 2 k z λa k=>nn ?_);exact ⟨w64 (Ab+1),k.keep [0,1,7,8] z,m.sl [] z,h⟩
   refine wp_exit (Qaf (Qaf (Qaj (Qaa ?_))));refine wr (pN 1 k z λa k=>nn (wp_ret (fS h k m z z)))
 exact ⟨0,k.keep [0,1,7,8] z,m.sl [] z,h⟩
theorem Qms (fu:Nat) {w0:World} (Aa:List Int) (f5:Int→Option Bool) {v2:Value} {F3:List Nat} (Ab:rd w0 F3 [v2] Aa) {v6:Value} (Ag:Qvg Tryz.prog w0 v6 f5) {r:Bool}
    (h:Qcz fu Aa f5=some r) :
    Calls Tryz.prog 105 #[v2,v6] w0 λe w=>e=.returned (.bool (r))∧Ext [] w0 w:=by
 refine en (vs:=[_,_]) func105 z ntmps105 z λa k m=>?_;obtain ⟨Ai,Ak,rfl,Ac,Ad⟩:=Ag;unfold Qcz at h;refine wr (pN 1 k z λa k=>nn (wr (pN 2 k z λa k=>oE h λAj Ah h=>cC k m call107 z (Qpu fu _ _ (m.r Ab) ⟨_,_,z,Ac,λw Af Ae r e=>Ad w Af Ae r (m.ext.trans e (by simp))⟩ Ah) λAl e a k m=>pN 2 k z λa k=>nn (wp_ret (fS h k m z z)))))
theorem Q1a (fu:Nat) {w0:World} (l1:List Int) (x5:List Pair) (Ae:Int) {v2:Value} {F3:List Nat} (Ad:rd w0 F3 [v2] l1) {v8:Value} {F9:List Nat} {b6:Nat} (Ac:bx w0 b6 [v8] 26) (Af:rd w0 F9 [v8] x5) {Aa:Nat} (Ab:bx w0 Aa [I Ae] 3) {r:Bool}
    (h:Qod fu l1 x5 Ae=some r) :
    Calls Tryz.prog 143 #[v2,pt b6,pt Aa] w0 λe w=>e=.returned (.bool (r))∧Ext [] w0 w:=by
 refine en (vs:=[_,_,_]) func143 z ntmps143 z λa k m=>?_;unfold Qod at h;refine wr (pN 1 k z λa k=>nn (wr (pN 2 k z λa k=>oE h λAi Ah h=>cC k m call105 z (Qms fu _ _ (m.r Ad) ⟨144,[pt b6,pt Aa],z,call144,λw Aj Ak r e Ag hx=>by subst Ag; have m:=m.step e; exact Qx4 fu _ _ _ (Ac.agr (m.a00 Ac.lt1) (by simp)) (m.r Af) (Ab.agr (m.a00 Ab.lt1) (by simp)) hx⟩ Ah) λAl e a k m=>pN 2 k rfl λa k=>nn (wp_ret (fS h k m rfl rfl)))))
theorem Qoc (fu:Nat) {w0:World} (Aa:List (List Int)) (f5:(List Int)→Option Bool) {v2:Value} {F3:List Nat} (Ac:rd w0 F3 [v2] Aa) {v6:Value} (Aq:Qvg Tryz.prog w0 v6 f5) {r:Int}
    (h:Qdg fu Aa f5=some r) :
    Calls Tryz.prog 142 #[v2,v6] w0 λe w=>e=.returned (I r)∧Ext [] w0 w:=by
 refine en (vs:=[_,_]) func142 z ntmps142 z λa k m=>?_;obtain ⟨Ap,Ag,rfl,Ai,Ak⟩:=Aq;unfold Qdg at h;refine wr (pN 1 k z λa k=>nn (wp_seq (wr (pN 1 k z λa k=>sv k z (Qa2 (α:=List Int) Ac k underlying52 z z) λa k=>pN 1 k z λa k=>nn (wp_block (Qap (λn a w=>∃ (Ab:Int),K 19 [(0,v2),(1,(.func (.func Ap) #[] Ag.toArray)),(7,I (Aa.length:Int)),(8,I Ab)] a∧St [] w0 w []∧Qb5 fu Aa f5 n Ab=some r) ?_ ?_ fu _ _ ?_))))))
 · rintro a w ⟨_,_,_,h⟩;exact nS h
 · rintro Av a Az ⟨Ab,k,m,h⟩;rw [Qb5.eq_2] at h;unfold Qei at h;refine wr (pN 1 k z λa k=>nn (wp_seq (cI h k z (λAf h=>?_) λAf h=>?_)))
   · refine wp_skip (Qaa ?_);refine wp_seq (wp_block (wr (pN 2 k z λa k=>nn (wr (pN 3 k z λa k=>oE h λAt Ae h=>sv k z (Qak Ac Ae k Qyj z z z) λa k=>?_)))));obtain ⟨Ar,Am,Ax,Ad,Aj,Ah⟩:=Qa6 Ac (Qal Ae).2.2;obtain ⟨As,rfl⟩:∃ v,Am=[v]:=by obtain ⟨_,_,hq,_⟩:=Ad; exact ⟨_,hq⟩
     refine sv k z (Qan Qr0 (Aj.agr (m.a00 (Enc.rd_lt Ac)) Ah) k z z) λa k=>oE h λAu Ao h=>Qtm k Ai z z z z z z (Ak _ _ _ _ m.ext ⟨_,(m.r Ad)⟩ Ao) λAw Ay hR=>?_;obtain ⟨rfl,e⟩:=hR;refine ⟨_,z,λa k=>?_⟩;have m:=m.step e;refine nn (cI h k z (λAl h=>?_) λAl h=>?_)
     · refine wr (pN 2 k z λa k=>nn (wp_ret (Qag (Qad (Qad (Qag (Qad ?_)))))));refine fS h k m z z
     refine wp_skip (Qae (Qaa ?_));refine wp_region_lit (pN 2 k z λa k=>nn ?_);exact ⟨w64 (Ab+1),k.keep [0,1,7,8] z,m.sl [] z,h⟩
   refine wp_exit (Qaf (Qaf (Qaj (Qaa ?_))));refine wr (pN 1 k z λa k=>nn (wp_ret (fS h k m z z)))
 exact ⟨0,k.keep [0,1,7,8] z,m.sl [] z,h⟩
theorem Q3i (fu:Nat) {w0:World} (Ak:List Pair) (Be:List Int) {v2:Value} {F3:List Nat} (Au:rd w0 F3 [v2] Ak) {v6:Value} {F7:List Nat} (Bf:rd w0 F7 [v6] Be) {r:(List (List Int))}
    (h:Qrk fu Ak Be=some r) :
    Calls Tryz.prog 66 #[v2,v6] w0 λe w=>∃ (v0:Value) (G0:List Nat),e=.returned (v0)∧Ext [] w0 w∧ow w G0 [v0] r∧(∀ b∈G0,w0.heap.size≤b):=by
 refine en (vs:=[_,_]) func66 z ntmps66 z λa k m=>?_;unfold Qrk at h;refine wr (Qbg (cs:=[v2]) m k z z z z z (Qq9 Au) λb9 At a k m e Cp=>pN 1 k z λa k=>nn (wr (sB (cs:=[]) (ps:=[]) Qzq m k z (by exact fN) λBa Bn Er a k m e Ee=>?_)));have Ed:=Qs9 (α:=List Int) Ee;refine pN 1 k z λa k=>nn (wp_seq (wr (pN 1 k z λa k=>oE h λAr Cj h=>sC k call141 z (Qyz fu _ (m.r Bf) Cj) λFm Al hR=>?_)));obtain ⟨Bd,Ah,rfl,e,Ai,Dz⟩:=hR;refine ⟨_,z,λa k=>?_⟩;have m:=m.nw e Dz Ai;refine sv k z (Qa2 (α:=Int) (Enc.ow_rd Ai) k underlying41 z z) λa k=>pN 1 k z λa k=>nn (wp_block (Qap (λn a w=>∃ (Af:List (List Int)) (Ae:Value) (Ac:List Nat) (Ao:World) (Ag:Int),K 42 [(2,pt b9),(5,Ae),(11,Bd),(12,I (Ar.length:Int)),(13,I Ag)] a∧St [] w0 w [([b9],At),(Ah,Al),(Ac,Ao)]∧ow Ao Ac [Ae] Af∧Qfa fu Ak Ar n Af Ag=some r) ?_ ?_ fu _ _ ?_))
 · rintro a w ⟨_,_,_,_,_,_,_,_,h⟩;exact nS h
 · rintro Df a Ff ⟨Af,Ae,Ac,Ao,Ag,k,m,Aa,h⟩;rw [Qfa.eq_2] at h;unfold Qn2 at h;refine wr (pN 1 k z λa k=>nn (wp_seq (cI h k z (λDq h=>?_) λDq h=>?_)))
   · refine wp_skip (Qaa ?_);refine Qc1 (λa w=>∃ (Ap:List (List Int)) (Aq:Value) (Am:List Nat) (Aj:World),K 42 [(2,pt b9),(5,Aq),(11,Bd),(12,I (Ar.length:Int)),(13,I Ag)] a∧St [] w0 w [([b9],At),(Ah,Al),(Am,Aj)]∧ow Aj Am [Aq] Ap∧Qiw fu (Qfa fu Ak Ar Df) Ag Ap=some r) ?_ ?_
     · rintro a Fv ⟨Ap,Aq,Am,Aj,k,m,Bo,h⟩;unfold Qiw at h;refine wp_region_lit (pN 2 k z λa k=>nn ?_);exact ⟨Ap,Aq,Am,Aj,w64 (Ag+1),k.keep [2,5,11,12,13] z,m.sl [0,1,2] z,Bo,h⟩
     refine wp_block (wr (oE h λAd Az h=>sv k z (Qak (Enc.ow_rd Ai) Az k Qhf z z z) λa k=>sv k z (Qaq (Enc.ow_rd Ai) (m.a 1 z) Az 0 t13 k z z z z) λa k=>Qar (cs:=[I 0]) m k zeroValue3 z z z z z λAv Ft a k m e Dk=>sT (cs':=[I Ad]) sizeOf3 m 0 Dk 0 k z z λBj a k e m As=>nn (wp_seq (wr (sv k z (Qua t13 m 0 As 0 k z z z z z) λa k=>oE h λEo Cl h=>cC k m call42 z (Qbn fu _ _ _  Cl) λGc e a k m=>pN 1 k z λa k=>nn (cI h k z (λDg h=>?_) λDg h=>?_))))))
     · refine wp_exit (Qaf (Qaj (Qaa ?_)));exact ⟨Af,Ae,Ac,Ao,k.keep [2,5,11,12,13] z,m.sl [1,2,3] z,Aa,h⟩
     refine wp_skip (Qaa ?_);refine wr (pN 2 k z λa k=>oE h λBc Cc h=>cC k m call142 z (Qoc fu _ _ (m.q Aa 3 z) ⟨143,[pt b9,pt Av],z,call143,λw Fj Em r e Aw hx=>by obtain ⟨_,Aw⟩:=Aw; have m:=m.step e; exact Q1a fu _ _ _ Aw (m.y Cp 1 z) (m.r Au) (m.y As 0 z) hx⟩ Cc) λEn e a k m=>pN 1 k z λa k=>nn (wr (pN 2 k z λa k=>nn (cI h k z (λBy h=>?_) λBy h=>?_))))
     · refine wp_region_lit (pN 1 k z λa k=>sv k z (Qua t13 m 0 As 0 k z z z z z) λa k=>sB (cs:=[I Ad]) (ps:=[(0,.tmp 26)]) Qb4 m k z (by exact fC z fN) λBh Fk Eg a k m e Ce=>?_);have Bk:=Qa5 Ce ([Ad]:List Int) z z z;refine sB (cs:=[(.slice (some ⟨Bh,0,none⟩) 1 1)]) (ps:=[(0,.tmp 27)]) Qzq m k z (by exact (List.forall_mem_cons.2 ⟨congrArg Array.size (Qq9 (Enc.ow_rd Bk)),fN⟩)) λGg Fu Eu a k m e Db=>oE h λCv Co h=>?_;have Dm:=Enc.ow_agr Bk (m.a 1 z);have Ds:=News.box Db (m.a 0 z) (by simp) (m:=1);have Cg:=m.a 5 z;have m:=m.sl [5,1,0,2,3,4] z;have m:=m.join2;refine Qjm (F:=Ac) (G:=[Bh]) Co Qzq z m Aa Cg Ds Dm (Agr.refl _ _) k z z z z z z λDn Bp Dh a k e m Do=>pN 1 k z λa k=>wpList_nil (Qae (Qaa ?_));exact ⟨Cv,Dn,Bp,Dh,k.keep [2,5,11,12,13] z,m.sl [3,4,0] z,Do,h⟩
     refine Qit (Ac) Qip m z λCb hMd=>?_;have m:=hMd;have s:=Ext.refl ((Ac):List Nat) Cb;refine dM [0,1,2,3] 4 z k z s λa k=>oE h λFy Ab h=>dT k 4 z z s (λw s=>Qak (Enc.ow_rd Aa) Ab k Qyj z z z) λa k=>?_;obtain ⟨Fe,Cq,Es,Dp,Ek,Ey⟩:=Qa6 (Enc.ow_rd Aa) (Qal Ab).2.2;obtain ⟨Ex,rfl⟩:∃ v,Cq=[v]:=by obtain ⟨_,_,hq,_⟩:=Dp; exact ⟨_,hq⟩
     refine dT k 6 z z s (λw s=>Qan t13 (r:=[]) (As.at (hMd.az 0 3 z z z s) 0 1 z z z) k z z) λa k=>?_;obtain ⟨Ep,Di,El,Cu,Fh,Fz⟩:=Qa6 (Enc.ow_rd Aa) (Qal Ab).2.2;obtain ⟨Fg,rfl⟩:∃ v,Di=[v]:=by obtain ⟨_,_,hq,_⟩:=Cu; exact ⟨_,hq⟩
     refine Qmo 5 7 (by kernel_rfl) z z ?_ ?_ 
     · obtain ⟨Fw,Dj,Gf,Cw,Bi,Cd⟩:=Qa6 (Enc.ow_rd Aa) (Qal Ab).2.2;obtain ⟨Fa,rfl⟩:∃ v,Dj=[v]:=by obtain ⟨_,_,hq,_⟩:=Cw; exact ⟨_,hq⟩
       refine sv k z (Qan Qr0 (Bi.agr (m.a 3 z) Cd) k z z) λa k=>wpList_nil ⟨s,?_⟩;refine dO 7 z (Qdu (cs:=[I Ad]) (ps:=[(0,.tmp 36)]) Qb4 m k z z z z z z z (by decide) z (by exact fC z fN) λBr Cf Ge a k m e Bx Bq=>?_);have Fr:=lo1 (Nat.le_trans s.size Bq);have Bv:=Qa5 Bx ([Ad]:List Int) z z z;refine ns s e λs=>?_;refine dO 8 z ?_;obtain ⟨Fi,Fp,m,Bs,Ck,Dv,Bl⟩:=m.opnS 4 z Aa Ab Bi z (M':=[([Br],Cf),([Av],Bj),([b9],At),(Ah,Al)]) z;refine oE h λCn Dc h=>Qbd Dc Qb4 z m 1 Ck (News.rd (m.q Bv 2 z)) z z k z z z z z z z λCy De Ez a k e m Ay Dw=>?_;have Fl:∀ y∈De,y∈(Ac)∨_≤y:=λy hy=>(Dw y hy).elim (λhy=>(λy hy=>(λy hy=>Or.inl hy) y (Bl y hy)) y hy) (λh=>Or.inr (Nat.le_trans s.size h));have s:=s.trans e (λy hy=>(λy hy=>Or.inl hy) y (Bl y hy));refine wpList_nil ⟨s,?_⟩;refine oE h λGb Fd h=>dT k 9 z z s (λw s=>Qak (Enc.ow_rd Aa) Ab k Qyj z z z) λa k=>dO 10 z (Qu6 (α:=List Int) (sz:=1) (cs':=[Cy]) sizeOf41 m 0 Bs 0 k (Qq9 (Enc.ow_rd Ay)) (Qhv (Enc.ow_rd Ay)) z z z z z z z z z z λDu a k e m Bz=>?_)
       obtain ⟨Cx,m,Dd⟩:=(m.sl [0,1,2,3,4,5] z).cls Bz Ay;have s:=s.trans e (λy hy=>(λy hy=>Or.inl hy) y (Dv y hy));refine wpList_nil ⟨s,?_⟩;refine dD ?_;have k:=k.keep [2,11,12,5,13] z;refine (Qae (Qaa ?_));exact ⟨Qg2 Af Bc Cn,Ae,Cx,Du,k.keep [2,5,11,12,13] z,m.sl [3,4,0] z,Dd,h⟩
     refine Qdu (cs:=[I Ad]) (ps:=[(0,.tmp 36)]) Qb4 m k z z z z z z z (by decide) z (by exact fC z fN) λCi Dt Gh a k m e Cr Ef=>?_;have Fn:=lo1 (Nat.le_trans s.size Ef);have Cs:=Qa5 Cr ([Ad]:List Int) z z z;refine ns s e λs=>?_;obtain ⟨Ew,Cm,Fx,Ec,Ev,Fb⟩:=Qa6 (Enc.ow_rd Aa) (Qal Ab).2.2;obtain ⟨Eh,rfl⟩:∃ v,Cm=[v]:=by obtain ⟨_,_,hq,_⟩:=Ec; exact ⟨_,hq⟩
     refine dO 5 z ?_;obtain ⟨Ei,Ea,Ej,Bt,Bb,Eb⟩:=Qa6 (Enc.ow_rd Aa) (Qal Ab).2.2;obtain ⟨Fq,rfl⟩:∃ v,Ea=[v]:=by obtain ⟨_,_,hq,_⟩:=Bt; exact ⟨_,hq⟩
     refine sv k z (Qan Qr0 (Bb.agr (m.a 4 z) Eb) k z z) λa k=>wpList_nil ⟨s,?_⟩;refine dO 8 z ?_;obtain ⟨Gd,Fc,m,Bm,Da,Bw,Bg⟩:=m.opnS 4 z Aa Ab Bb z (M':=[([Ci],Dt),([Av],Bj),([b9],At),(Ah,Al)]) z;refine oE h λCz Dr h=>Qbd Dr Qb4 z m 1 Da (News.rd (m.q Cs 2 z)) z z k z z z z z z z λDx Dy Et a k e m Ax Bu=>?_;have Gi:∀ y∈Dy,y∈(Ac)∨_≤y:=λy hy=>(Bu y hy).elim (λhy=>(λy hy=>(λy hy=>Or.inl hy) y (Bg y hy)) y hy) (λh=>Or.inr (Nat.le_trans s.size h));have s:=s.trans e (λy hy=>(λy hy=>Or.inl hy) y (Bg y hy));refine wpList_nil ⟨s,?_⟩;refine oE h λGa Fs h=>dT k 9 z z s (λw s=>Qak (Enc.ow_rd Aa) Ab k Qyj z z z) λa k=>dO 10 z (Qu6 (α:=List Int) (sz:=1) (cs':=[Dx]) sizeOf41 m 0 Bm 0 k (Qq9 (Enc.ow_rd Ax)) (Qhv (Enc.ow_rd Ax)) z z z z z z z z z z λDl a k e m Ca=>?_);obtain ⟨Ch,m,Ct⟩:=(m.sl [0,1,2,3,4,5] z).cls Ca Ax;have s:=s.trans e (λy hy=>(λy hy=>Or.inl hy) y (Bw y hy));refine wpList_nil ⟨s,?_⟩;refine dD ?_;have k:=k.keep [2,11,12,5,13] z;refine (Qae (Qaa ?_))
     exact ⟨Qg2 Af Bc Cz,Ae,Ch,Dl,k.keep [2,5,11,12,13] z,m.sl [3,4,0] z,Ct,h⟩
   refine wp_exit (Qaf (Qaf (Qaj (Qaa ?_))));refine wr (pN 2 k z λa k=>nn (wp_ret ?_));cases h;exact Qct k z (RV.tmp k z) ⟨_,Ac,z,m.ext,(m.v Aa 2 z),(m.fresh 2 z)⟩
 exact ⟨([]:List (List Int)),(.slice (some ⟨Ba,0,none⟩) 0 0),[Ba],Bn,0,k.keep [2,5,11,12,13] z,m.sl [2,0,1] z,Ed,h⟩
theorem Qrr (fu:Nat) {w0:World} (r1:Request) {Ah:List Value} {F3:List Nat} (Ar:rd w0 F3 Ah r1) {r:(List (List Int))}
    (h:Qhq fu r1=some r) :
    Calls Tryz.prog 23 #[.agg Ah.toArray] w0 λe w=>∃ (v0:Value) (G0:List Nat),e=.returned (v0)∧Ext [] w0 w∧ow w G0 [v0] r∧(∀ b∈G0,w0.heap.size≤b):=by
 refine en (vs:=[_]) func23 z ntmps23 z λa k m=>?_;obtain ⟨v5,F6,v7,F8,v9,Be,rfl,rfl,Aa,Ac,Ab⟩:=Ar;unfold Qhq at h;refine wr (Qbg (cs:=(cR r1 v5 v7 v9)) m k z z z z z z λAy As a k m e Ae=>pN 1 k z λa k=>nn (wp_seq (wr (sv k z (rL Qfg m 0 Ae 0 k z) λa k=>oE h λAt Aq h=>cC k m call21 z (Qi6 fu _ (Qah (m.r Aa) (m.r Ac) (m.r Ab)) Aq) λAw e a k m=>?_))));refine pN 1 k z λa k=>nn (cI h k z (λAo h=>?_) λAo h=>?_)
 · refine wr (pN 1 k z λa k=>nn (wp_ret (Qad ?_)));cases h;exact Qct k z (RV.tmp k z) ⟨_,[],z,m.ext,(Qe7 _),(by simp)⟩
 refine wp_skip (Qaa ?_);refine wp_seq (Qit [] Qip m z λAp hMd=>?_);have m:=hMd;have s:=Ext.refl ([]:List Nat) Ap;refine dF k 0 Qoe z s λa k=>dT k 1 z z s (λw s=>Qan Q2s (r:=[]) (Ae.at ((hMd.step s).a 0 z) 6 1 z z z) k z z) λa k=>dT k 2 z z s (λw s=>Qde Qfg (Ae.at ((hMd.step s).a 0 z) 0 10 z z z) z k z z) λa k=>dO 3 z (oE h λAu Am h=>?_);refine sC k call67 z (Q2j fu _ (Qah (m.r Aa) (m.r Ac) (m.r Ab)) Am) λBd Bc hR=>?_;obtain ⟨Av,Ai,rfl,e,Ag,Aj⟩:=hR;refine ⟨_,z,λa k=>?_⟩;have m:=m.nw e Aj Ag;have Bb:=λ(y:Nat) (hy:y∈Ai)=>Nat.le_trans s.size (Aj y hy);refine ns s e λs=>?_;refine dO 4 z (oE h λBa Al h=>sC k call66 z (Q3i fu _ _ (m.r Aa) (m.q Ag 0 z) Al) λBg Az hR=>?_);obtain ⟨Bf,Ad,rfl,e,Af,Ak⟩:=hR;refine ⟨_,z,λa k=>?_⟩;have m:=m.nw e Ak Af;have Ax:=λ(y:Nat) (hy:y∈Ad)=>Nat.le_trans s.size (Ak y hy);refine ns s e λs=>?_;refine dM [5] 1 z k z s λa k=>dD ((Qaa ?_));refine wp_ret ?_;cases h;exact Qct k z (RV.tmp k z) ⟨_,Ad,z,m.ext,(m.v Af 0 z),(m.fresh 0 z)⟩
end Go.Proofs.YtpcmapfabndggaaGreatDoor
