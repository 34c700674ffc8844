/- FnChecked: the walks of functions that it reaches (CkdLawBWi,part 1). Printed by gen.py. -/
import Derived.Test.YtkkfmjpbiimkbaaGreatCkdLawBT
set_option maxRecDepth 20000
set_option linter.unusedSimpArgs false
set_option linter.unusedVariables false
set_option linter.unnecessarySimpa false
namespace Go.Proofs.YtkkfmjpbiimkbaaGreat
open Go Go.RowKit
open Enc (rd ow)
open Arg (argv)
open Ret (retv)
open Go.Proofs.Tryz


theorem Qwe (fu:Nat) {w0:World} (t1:Typ) (x2:Int) {b3:Nat} (Aa:bx w0 b3 [I x2] 3) {r:Bool}
    (h:Qob fu t1 x2 = some r) :
    Calls Tryz.prog 146 #[.agg (Flat.e (t1)).toArray,pt b3] w0 fun e w=>e = .returned (.bool (r)) ∧ Ext [] w0 w:=by
 refine enter (vs:=[_,_]) func146 z ntmps146 z fun a k=>?_;have m:=St.start w0;unfold Qob at h;refine wr (Qbd (cs:=[I t1.fId,I t1.fW,I t1.fH,I t1.fD,I t1.fTare,I t1.fGram,I t1.fCost]) m k z z z z z z fun b5 w7 a k m e Ab=>pN 1 k z fun a k=>nn (wr (fl Qr7 t13 m 0 Ab k z z fun a k=>sv k z (Qap t13 (r:=[]) (Aa.at (m.a00 Aa.lt1) 0 1 z z z) k z z) fun a k=>pN 2 k z fun a k=>nn (wp_ret (fS h k m z z)))))
theorem Qgu (fu:Nat) {w0:World} (Aa:List Typ) (f5:Typ → Option Bool) {v2:Value} {F3:List Nat} (Ac:rd w0 F3 [v2] Aa) {v6:Value} (Al:Qxh Tryz.prog w0 v6 f5) {r:Int}
    (h:Qbk fu Aa f5 = some r) :
    Calls Tryz.prog 145 #[v2,v6] w0 fun e w=>e = .returned (I r) ∧ Ext [] w0 w:=by
 refine enter (vs:=[_,_]) func145 z ntmps145 z fun a k=>?_;have m:=St.start w0;obtain ⟨Aj,Ae,rfl,Ak,Af⟩:=Al;unfold Qbk at h;refine wr (pN 1 k z fun a k=>nn (wp_seq (wr (pN 1 k z fun a k=>sv k z (Qa4 (α:=Typ) Ac k underlying35 z z) fun a k=>pN 1 k z fun a k=>nn (wp_block (Qat (fun n a w=>∃ (Ab:Int),K 19 [(0,v2),(1,(.func (.func Aj) #[] Ae.toArray)),(7,I ((Aa.length:Int))),(8,I Ab)] a ∧ St [] w0 w [] ∧ Qba fu Aa f5 n Ab = some r) ?_ ?_ fu _ _ ?_))))))
 · rintro a w ⟨_,_,_,h⟩;exact nS h
 · rintro Ar a Ao ⟨Ab,k,m,h⟩;rw [Qba.eq_2] at h;unfold Qb5 at h;refine wr (pN 1 k z fun a k=>nn (wp_seq (cI h k z (fun Ag h=>?_) fun Ag h=>?_)))
   · refine wp_skip (Qaa ?_);refine wp_seq (wp_block (wr (pN 2 k z fun a k=>nn (wr (pN 3 k z fun a k=>oE h fun Aq Ad h=>sv k z (Qan Ac Ad k Q1v z z z) fun a k=>sv k z (Qh2 Ac (m.a00 (Enc.rd_lt Ac)) Ad Qst k z z) fun a k=>oE h fun Am Ai h=>Qu2 k Ak z z z z z z (Af _ _ _ _ m.ext z Ai) fun As Ap hR=>?_)))));obtain ⟨rfl,e⟩:=hR;refine ⟨_,z,fun a k=>?_⟩;have m:=m.step e;refine nn (cI h k z (fun Ah h=>?_) fun Ah h=>?_)
     · refine wr (pN 2 k z fun a k=>nn (wp_ret (Qaf (Qac (Qac (Qaf (Qac ?_)))))));refine fS h k m z z
     refine wp_skip (Qae (Qaa ?_));refine wp_region_lit (pN 2 k z fun a k=>nn ?_);exact ⟨w64 (Ab + 1),k.keep [0,1,7,8] z,m.sel [] z (by decide),h⟩
   refine wp_exit (Qag (Qag (Qao (Qaa ?_))));refine wr (pN 1 k z fun a k=>nn (wp_ret (fS h k m z z)))
 exact ⟨0,k.keep [0,1,7,8] z,m.sel [] z (by decide),h⟩
theorem Qj9 (fu:Nat) {w0:World} (r1:Request) (Ac:Int) {Ad:List Value} {F3:List Nat} (Aj:rd w0 F3 Ad r1) {r:Typ × Bool}
    (h:Qfp fu r1 Ac = some r) :
    Calls Tryz.prog 53 #[.agg Ad.toArray,I Ac] w0 fun e w=>e = .returned (.tuple #[.agg (Flat.e r.1).toArray,.bool (r.2)]) ∧ Ext [] w0 w:=by
 refine enter (vs:=[_,_]) func53 z ntmps53 z fun a k=>?_;have m:=St.start w0;obtain ⟨v6,F7,v8,F9,Ah,Be,rfl,rfl,Au,Ab,Ay⟩:=Aj;unfold Qfp at h;refine wr (Qbd (cs:=[I r1.fWay,I r1.fPallet.fW,I r1.fPallet.fD,I r1.fPallet.fH,I r1.fPallet.fGram,I r1.fClasses,v6,v8,I r1.fMaster,Ah]) m k z z z z z z fun Ax Bc a k m e Ag=>Qbd (cs:=[I Ac]) m k z z z z z z fun Ak Bd a k m e Al=>Qa2 (cs:=[I 0,I 0,I 0,I 0,I 0,I 0,I 0]) m k zeroValue79 z z z z z fun Bb At a k m e Af=>pN 1 k z fun a k=>nn (wr (fl Qec Qt0 m 2 Ag k z z fun a k=>pN 1 k z fun a k=>oE h fun As Ao h=>?_)));refine cE k m call145 z z z (Qgu fu _ _ (m.r Ab) ⟨146,[pt Ak],z,call146,fun w Av Aw r e Aq hx=>by subst Aq; have m:=m.step e; exact Qwe fu _ _ (Al.agr (m.a 1 rfl) (by simp)) hx⟩ Ao) fun Ba e a k m=>pN 1 k rfl fun a k=>nn (wp_seq (wr (pN 2 k rfl fun a k=>nn (cI h k rfl (fun Ai h=>?_) fun Ai h=>?_))))
 · refine wr (sv k z (Qbe Q35 k (cs:=#[I 0,I 0,I 0,I 0,I 0,I 0,I 0]) (ps:=[]) z z (by kernel_rfl)) fun a k=>Qa3 (cs':=[I 0,I 0,I 0,I 0,I 0,I 0,I 0]) sizeOf79 m 0 Af 0 k z z z z z z z z z z z fun Az a k e m Am=>pN 1 k z fun a k=>nn (wp_ret (Qac ?_)));cases h;exact Qtl k z (RV.cA k z Qst (Am.at (m.a 0 z) 0 7 z z z) z) (RV.tmp k z) ⟨z,m.ext⟩
 refine wp_skip (Qaa ?_);refine wr (fl Qec Qt0 m 2 Ag k z z fun a k=>pN 1 k z fun a k=>oE h fun Aa Ae h=>sv k z (Qan Ab Ae k Q1v z z z) fun a k=>sv k z (Qh2 Ab (m.a00 (Enc.rd_lt Ab)) Ae Qst k z z) fun a k=>Qa3 (cs':=[I Aa.fId,I Aa.fW,I Aa.fH,I Aa.fD,I Aa.fTare,I Aa.fGram,I Aa.fCost]) sizeOf79 m 0 Af 0 k z z z z z z z z z z z fun Ar a k e m Ap=>pN 1 k z fun a k=>nn (wp_ret ?_));cases h;exact Qtl k z (RV.cA k z Qst (Ap.at (m.a 0 z) 0 7 z z z) z) (RV.tmp k z) ⟨z,m.ext⟩
theorem Qty (fu:Nat) {w0:World} (r1:Request) {Ae:List Value} {F3:List Nat} (Ah:rd w0 F3 Ae r1) {r:Typ × Bool}
    (h:Qjq fu r1 = some r) :
    Calls Tryz.prog 250 #[.agg Ae.toArray] w0 fun e w=>e = .returned (.tuple #[.agg (Flat.e r.1).toArray,.bool (r.2)]) ∧ Ext [] w0 w:=by
 refine enter (vs:=[_]) func250 z ntmps250 z fun a k=>?_;have m:=St.start w0;obtain ⟨v5,F6,v7,F8,v9,Aq,rfl,rfl,Ac,Af,Ad⟩:=Ah;unfold Qjq at h;refine wr (Qbd (cs:=[I r1.fWay,I r1.fPallet.fW,I r1.fPallet.fD,I r1.fPallet.fH,I r1.fPallet.fGram,I r1.fClasses,v5,v7,I r1.fMaster,v9]) m k z z z z z z fun Am Ao a k m e Ab=>Qa2 (cs:=[I 0,I 0,I 0,I 0,I 0,I 0,I 0]) m k zeroValue79 z z z z z fun Al Ap a k m e Ai=>pN 1 k z fun a k=>nn (wr (sv k z (Qa5 Qeg m 1 Ab 0 k z z z z z z) fun a k=>fl Q19 t13 m 1 Ab k z z fun a k=>oE h fun Aa Ag h=>?_)));refine cE k m call53 z z z (Qj9 fu _ _ (Qah (m.r Ac) (m.r Af) (m.r Ad)) Ag) fun Ak e a k m=>pN 2 k z fun a k=>Qa3 (cs':=[I Aa.1.fId,I Aa.1.fW,I Aa.1.fH,I Aa.1.fD,I Aa.1.fTare,I Aa.1.fGram,I Aa.1.fCost]) sizeOf79 m 0 Ai 0 k z z z z z z z z z z z fun Ar a k e m Aj=>pN 1 k z fun a k=>nn (wp_ret ?_);cases h;exact Qtl k z (RV.cA k z Qst (Aj.at (m.a 0 z) 0 7 z z z) z) (RV.tmp k z) ⟨z,m.ext⟩
theorem Qcr (fu:Nat) {w0:World} (n1:Int) (Ab:Int) (Ac:Int)  {r:Bool}
    (h:Qca fu n1 Ab Ac = some r) :
    Calls Tryz.prog 139 #[I n1,I Ab,I Ac] w0 fun e w=>e = .returned (.bool (r)) ∧ Ext [] w0 w:=by
 refine enter (vs:=[_,_,_]) func139 z ntmps139 z fun a k=>?_;have m:=St.start w0;unfold Qca at h;refine wr (pN 1 k z fun a k=>nn (wr (pN 4 k z fun a k=>Qam (decide (n1 ≥ Ab)) (fun Aa=>?_) (fun Aa=>?_))))
 · have h:=Qaw Aa h;refine rB k 10 z Aa fun k=>pN 5 k z fun a k=>nn (wp_ret (fS h k m z z))
 have h:=Qav Aa h;refine rB k 10 z Aa fun k=>pN 5 k z fun a k=>nn (wp_ret (fS h k m z z))
theorem Qeq (fu:Nat) {w0:World} (n1:Int)  {r:Bool}
    (h:Qcu fu n1 = some r) :
    Calls Tryz.prog 154 #[I n1] w0 fun e w=>e = .returned (.bool (r)) ∧ Ext [] w0 w:=by
 refine enter (vs:=[_]) func154 z ntmps154 z fun a k=>?_;have m:=St.start w0;unfold Qcu at h;refine wr (pN 1 k z fun a k=>nn (wr (pN 1 k z fun a k=>oE h fun x2 Aa h=>cE k m call139 z z z (Qcr fu _ _ _  Aa) fun w5 e a k m=>pN 1 k z fun a k=>nn (wp_ret (fS h k m z z)))))
theorem Qxw (fu:Nat) {w0:World} (x1:Pallet)  {r:Bool}
    (h:Qn1 fu x1 = some r) :
    Calls Tryz.prog 303 #[.agg (Flat.e (x1)).toArray] w0 fun e w=>e = .returned (.bool (r)) ∧ Ext [] w0 w:=by
 refine enter (vs:=[_]) func303 z ntmps303 z fun a k=>?_;have m:=St.start w0;unfold Qn1 at h;refine wr (Qbd (cs:=[I x1.fW,I x1.fD,I x1.fH,I x1.fGram]) m k z z z z z z fun b2 w4 a k m e Ad=>pN 1 k z fun a k=>nn (wr (fl Qvr t13 m 0 Ad k z z fun a k=>oE h fun x5 Ah h=>cE k m call154 z z z (Qeq fu _  Ah) fun w9 e a k m=>pN 1 k z fun a k=>Qam (x5) (fun Ac=>?_) (fun Ac=>?_))))
 · have h:=Qaw Ac h;refine rB k 6 z Ac fun k=>fl Qvn t13 m 0 Ad k z z fun a k=>oE h fun Af Ai h=>cE k m call154 z z z (Qeq fu _  Ai) fun Ak e a k m=>pN 2 k z fun a k=>Qam (Af) (fun Aa=>?_) (fun Aa=>?_)
   · have h:=Qaw Aa h;refine rB k 11 z Aa fun k=>fl Qvk t13 m 0 Ad k z z fun a k=>oE h fun Ae Ag h=>cE k m call154 z z z (Qeq fu _  Ag) fun Am e a k m=>pN 2 k z fun a k=>Qam (Ae) (fun Ab=>?_) (fun Ab=>?_)
     · have h:=Qaw Ab h;refine rB k 16 z Ab fun k=>fl Qs1 t13 m 0 Ad k z z fun a k=>oE h fun Al Aj h=>cE k m call139 z z z (Qcr fu _ _ _  Aj) fun Ao e a k m=>pN 2 k z fun a k=>nn (wp_ret (fS h k m z z))
     have h:=Qav Ab h;refine rB k 16 z Ab fun k=>pN 5 k z fun a k=>nn (wp_ret (fS h k m z z))
   have h:=Qav Aa h;refine rB k 11 z Aa fun k=>pN 10 k z fun a k=>nn (wp_ret (fS h k m z z))
 have h:=Qav Ac h;refine rB k 6 z Ac fun k=>pN 15 k z fun a k=>nn (wp_ret (fS h k m z z))
theorem Qoh (fu:Nat) {w0:World} (Aa:List Pair) (f5:Pair → Option Bool) {v2:Value} {F3:List Nat} (Ac:rd w0 F3 [v2] Aa) {v6:Value} (Al:Qxh Tryz.prog w0 v6 f5) {r:Int}
    (h:Qb0 fu Aa f5 = some r) :
    Calls Tryz.prog 329 #[v2,v6] w0 fun e w=>e = .returned (I r) ∧ Ext [] w0 w:=by
 refine enter (vs:=[_,_]) func329 z ntmps329 z fun a k=>?_;have m:=St.start w0;obtain ⟨Aj,Ae,rfl,Ak,Af⟩:=Al;unfold Qb0 at h;refine wr (pN 1 k z fun a k=>nn (wp_seq (wr (pN 1 k z fun a k=>sv k z (Qa4 (α:=Pair) Ac k underlying34 z z) fun a k=>pN 1 k z fun a k=>nn (wp_block (Qat (fun n a w=>∃ (Ab:Int),K 19 [(0,v2),(1,(.func (.func Aj) #[] Ae.toArray)),(7,I ((Aa.length:Int))),(8,I Ab)] a ∧ St [] w0 w [] ∧ Qa9 fu Aa f5 n Ab = some r) ?_ ?_ fu _ _ ?_))))))
 · rintro a w ⟨_,_,_,h⟩;exact nS h
 · rintro Ar a Ao ⟨Ab,k,m,h⟩;rw [Qa9.eq_2] at h;unfold Qb7 at h;refine wr (pN 1 k z fun a k=>nn (wp_seq (cI h k z (fun Ag h=>?_) fun Ag h=>?_)))
   · refine wp_skip (Qaa ?_);refine wp_seq (wp_block (wr (pN 2 k z fun a k=>nn (wr (pN 3 k z fun a k=>oE h fun Aq Ad h=>sv k z (Qan Ac Ad k Q80 z z z) fun a k=>sv k z (Qh2 Ac (m.a00 (Enc.rd_lt Ac)) Ad Q81 k z z) fun a k=>oE h fun Am Ai h=>Qu2 k Ak z z z z z z (Af _ _ _ _ m.ext z Ai) fun As Ap hR=>?_)))));obtain ⟨rfl,e⟩:=hR;refine ⟨_,z,fun a k=>?_⟩;have m:=m.step e;refine nn (cI h k z (fun Ah h=>?_) fun Ah h=>?_)
     · refine wr (pN 2 k z fun a k=>nn (wp_ret (Qaf (Qac (Qac (Qaf (Qac ?_)))))));refine fS h k m z z
     refine wp_skip (Qae (Qaa ?_));refine wp_region_lit (pN 2 k z fun a k=>nn ?_);exact ⟨w64 (Ab + 1),k.keep [0,1,7,8] z,m.sel [] z (by decide),h⟩
   refine wp_exit (Qag (Qag (Qao (Qaa ?_))));refine wr (pN 1 k z fun a k=>nn (wp_ret (fS h k m z z)))
 exact ⟨0,k.keep [0,1,7,8] z,m.sel [] z (by decide),h⟩
theorem Qf8 (fu:Nat) {w0:World} (Aa:List Pair) (f5:Pair → Option Bool) {v2:Value} {F3:List Nat} (Ab:rd w0 F3 [v2] Aa) {v6:Value} (Ae:Qxh Tryz.prog w0 v6 f5) {r:Bool}
    (h:Qa8 fu Aa f5 = some r) :
    Calls Tryz.prog 304 #[v2,v6] w0 fun e w=>e = .returned (.bool (r)) ∧ Ext [] w0 w:=by
 refine enter (vs:=[_,_]) func304 z ntmps304 z fun a k=>?_;have m:=St.start w0;obtain ⟨Ak,Ai,rfl,Ah,Ad⟩:=Ae;unfold Qa8 at h;refine wr (pN 1 k z fun a k=>nn (wr (pN 2 k z fun a k=>oE h fun Al Ag h=>cE k m call329 z z z (Qoh fu _ _ (m.r Ab) ⟨_,_,z,Ah,fun w Af Ac r e=>Ad w Af Ac r (m.ext.trans e (by simp))⟩ Ag) fun Aj e a k m=>pN 2 k z fun a k=>nn (wp_ret (fS h k m z z)))))
theorem Qwa (fu:Nat) {w0:World} (p1:Pair)  {r:Bool}
    (h:Qjy fu p1 = some r) :
    Calls Tryz.prog 305 #[.agg (Flat.e (p1)).toArray] w0 fun e w=>e = .returned (.bool (r)) ∧ Ext [] w0 w:=by
 refine enter (vs:=[_]) func305 z ntmps305 z fun a k=>?_;have m:=St.start w0;unfold Qjy at h;refine wr (Qbd (cs:=[I p1.fA,I p1.fB]) m k z z z z z z fun b2 w4 a k m e Ab=>pN 1 k z fun a k=>nn (wr (fl Qyh t13 m 0 Ab k z z fun a k=>oE h fun x5 Ac h=>cE k m call139 z z z (Qcr fu _ _ _  Ac) fun w9 e a k m=>pN 2 k z fun a k=>Qam (!x5) (fun Aa=>?_) (fun Aa=>?_))))
 · have h:=Qaw Aa h;refine rB k 7 z Aa fun k=>pN 6 k z fun a k=>nn (wp_ret (fS h k m z z))
 have h:=Qav Aa h;refine rB k 7 z Aa fun k=>fl Qxn t13 m 0 Ab k z z fun a k=>oE h fun Ae Ad h=>cE k m call139 z z z (Qcr fu _ _ _  Ad) fun Af e a k m=>pN 3 k z fun a k=>nn (wp_ret (fS h k m z z))
theorem Qdl (fu:Nat) {w0:World} (Aa:List Typ) (f5:Typ → Option Bool) {v2:Value} {F3:List Nat} (Ab:rd w0 F3 [v2] Aa) {v6:Value} (Ae:Qxh Tryz.prog w0 v6 f5) {r:Bool}
    (h:Qay fu Aa f5 = some r) :
    Calls Tryz.prog 275 #[v2,v6] w0 fun e w=>e = .returned (.bool (r)) ∧ Ext [] w0 w:=by
 refine enter (vs:=[_,_]) func275 z ntmps275 z fun a k=>?_;have m:=St.start w0;obtain ⟨Ak,Ai,rfl,Ah,Ad⟩:=Ae;unfold Qay at h;refine wr (pN 1 k z fun a k=>nn (wr (pN 2 k z fun a k=>oE h fun Al Ag h=>cE k m call145 z z z (Qgu fu _ _ (m.r Ab) ⟨_,_,z,Ah,fun w Af Ac r e=>Ad w Af Ac r (m.ext.trans e (by simp))⟩ Ag) fun Aj e a k m=>pN 2 k z fun a k=>nn (wp_ret (fS h k m z z)))))
theorem Q1p (fu:Nat) {w0:World} (x1:Typ)  {r:Bool}
    (h:Qrb fu x1 = some r) :
    Calls Tryz.prog 307 #[.agg (Flat.e (x1)).toArray] w0 fun e w=>e = .returned (.bool (r)) ∧ Ext [] w0 w:=by
 refine enter (vs:=[_]) func307 z ntmps307 z fun a k=>?_;have m:=St.start w0;unfold Qrb at h;refine wr (Qbd (cs:=[I x1.fId,I x1.fW,I x1.fH,I x1.fD,I x1.fTare,I x1.fGram,I x1.fCost]) m k z z z z z z fun b2 w4 a k m e Aa=>pN 1 k z fun a k=>nn (wr (fl Qr7 t13 m 0 Aa k z z fun a k=>oE h fun x5 Al h=>cE k m call139 z z z (Qcr fu _ _ _  Al) fun w9 e a k m=>pN 1 k z fun a k=>Qam (x5) (fun Af=>?_) (fun Af=>?_))))
 · have h:=Qaw Af h;refine rB k 6 z Af fun k=>fl Qtu t13 m 0 Aa k z z fun a k=>oE h fun Ah Ai h=>cE k m call154 z z z (Qeq fu _  Ai) fun Ax e a k m=>pN 2 k z fun a k=>Qam (Ah) (fun Ag=>?_) (fun Ag=>?_)
   · have h:=Qaw Ag h;refine rB k 11 z Ag fun k=>fl Qti t13 m 0 Aa k z z fun a k=>oE h fun Ar Ak h=>cE k m call154 z z z (Qeq fu _  Ak) fun Ay e a k m=>pN 2 k z fun a k=>Qam (Ar) (fun Ad=>?_) (fun Ad=>?_)
     · have h:=Qaw Ad h;refine rB k 16 z Ad fun k=>fl Qt4 t13 m 0 Aa k z z fun a k=>oE h fun Ao Aj h=>cE k m call154 z z z (Qeq fu _  Aj) fun Au e a k m=>pN 2 k z fun a k=>Qam (Ao) (fun Ae=>?_) (fun Ae=>?_)
       · have h:=Qaw Ae h;refine rB k 21 z Ae fun k=>fl Qz5 t13 m 0 Aa k z z fun a k=>oE h fun Aq Ap h=>cE k m call139 z z z (Qcr fu _ _ _  Ap) fun Av e a k m=>pN 2 k z fun a k=>Qam (Aq) (fun Ab=>?_) (fun Ab=>?_)
         · have h:=Qaw Ab h;refine rB k 26 z Ab fun k=>fl Quj t13 m 0 Aa k z z fun a k=>oE h fun At Am h=>cE k m call139 z z z (Qcr fu _ _ _  Am) fun Ba e a k m=>pN 2 k z fun a k=>Qam (At) (fun Ac=>?_) (fun Ac=>?_)
           · have h:=Qaw Ac h;refine rB k 31 z Ac fun k=>fl Qut t13 m 0 Aa k z z fun a k=>oE h fun Aw As h=>cE k m call139 z z z (Qcr fu _ _ _  As) fun Az e a k m=>pN 2 k z fun a k=>?_;have k:=k.keep [2] z;refine nn (wp_ret (fS h k m z z))
           have h:=Qav Ac h;refine rB k 31 z Ac fun k=>pN 5 k z fun a k=>?_;have k:=k.keep [2] z;refine nn (wp_ret (fS h k m z z))
         have h:=Qav Ab h;refine rB k 26 z Ab fun k=>pN 10 k z fun a k=>?_;have k:=k.keep [2] z;refine nn (wp_ret (fS h k m z z))
       have h:=Qav Ae h;refine rB k 21 z Ae fun k=>pN 15 k z fun a k=>?_;have k:=k.keep [2] z;refine nn (wp_ret (fS h k m z z))
     have h:=Qav Ad h;refine rB k 16 z Ad fun k=>pN 20 k z fun a k=>?_;have k:=k.keep [2] z;refine nn (wp_ret (fS h k m z z))
   have h:=Qav Ag h;refine rB k 11 z Ag fun k=>pN 25 k z fun a k=>?_;have k:=k.keep [2] z;refine nn (wp_ret (fS h k m z z))
 have h:=Qav Af h;refine rB k 6 z Af fun k=>pN 30 k z fun a k=>?_;have k:=k.keep [2] z;refine nn (wp_ret (fS h k m z z))
theorem Qv5 (fu:Nat) {w0:World} (t1:Typ)  {r:Bool}
    (h:Qjr fu t1 = some r) :
    Calls Tryz.prog 306 #[.agg (Flat.e (t1)).toArray] w0 fun e w=>e = .returned (.bool (r)) ∧ Ext [] w0 w:=by
 refine enter (vs:=[_]) func306 z ntmps306 z fun a k=>?_;have m:=St.start w0;unfold Qjr at h;refine wr (Qbd (cs:=[I t1.fId,I t1.fW,I t1.fH,I t1.fD,I t1.fTare,I t1.fGram,I t1.fCost]) m k z z z z z z fun b2 w4 a k m e Aa=>pN 1 k z fun a k=>nn (wr (sv k z (Qa5 Qst m 0 Aa 0 k z z z z z z) fun a k=>oE h fun x5 Ab h=>cE k m call307 z z z (Q1p fu (t1:Typ)  Ab) fun w9 e a k m=>pN 2 k z fun a k=>nn (wp_ret (fS h k m z z)))))
theorem Q1h (fu:Nat) {w0:World} (x1:Item)  {r:Bool}
    (h:Qq3 fu x1 = some r) :
    Calls Tryz.prog 308 #[.agg (Flat.e (x1)).toArray] w0 fun e w=>e = .returned (.bool (r)) ∧ Ext [] w0 w:=by
 refine enter (vs:=[_]) func308 z ntmps308 z fun a k=>?_;have m:=St.start w0;unfold Qq3 at h;refine wr (Qbd (cs:=[I x1.fId,I x1.fW,I x1.fH,I x1.fD,I x1.fGram,I x1.fClass,I x1.fCount]) m k z z z z z z fun b2 w4 a k m e Aa=>pN 1 k z fun a k=>nn (wr (fl Qvy t13 m 0 Aa k z z fun a k=>oE h fun x5 Al h=>cE k m call139 z z z (Qcr fu _ _ _  Al) fun w9 e a k m=>pN 1 k z fun a k=>Qam (x5) (fun Af=>?_) (fun Af=>?_))))
 · have h:=Qaw Af h;refine rB k 6 z Af fun k=>fl Quy t13 m 0 Aa k z z fun a k=>oE h fun Ah Ai h=>cE k m call154 z z z (Qeq fu _  Ai) fun Ax e a k m=>pN 2 k z fun a k=>Qam (Ah) (fun Ag=>?_) (fun Ag=>?_)
   · have h:=Qaw Ag h;refine rB k 11 z Ag fun k=>fl Quu t13 m 0 Aa k z z fun a k=>oE h fun Ar Ak h=>cE k m call154 z z z (Qeq fu _  Ak) fun Ay e a k m=>pN 2 k z fun a k=>Qam (Ar) (fun Ad=>?_) (fun Ad=>?_)
     · have h:=Qaw Ad h;refine rB k 16 z Ad fun k=>fl Qtw t13 m 0 Aa k z z fun a k=>oE h fun Ao Aj h=>cE k m call154 z z z (Qeq fu _  Aj) fun Au e a k m=>pN 2 k z fun a k=>Qam (Ao) (fun Ae=>?_) (fun Ae=>?_)
       · have h:=Qaw Ae h;refine rB k 21 z Ae fun k=>fl Qt7 t13 m 0 Aa k z z fun a k=>oE h fun Aq Ap h=>cE k m call139 z z z (Qcr fu _ _ _  Ap) fun Av e a k m=>pN 2 k z fun a k=>Qam (Aq) (fun Ab=>?_) (fun Ab=>?_)
         · have h:=Qaw Ab h;refine rB k 26 z Ab fun k=>fl Qs9 t13 m 0 Aa k z z fun a k=>oE h fun At Am h=>cE k m call139 z z z (Qcr fu _ _ _  Am) fun Ba e a k m=>pN 2 k z fun a k=>Qam (At) (fun Ac=>?_) (fun Ac=>?_)
           · have h:=Qaw Ac h;refine rB k 31 z Ac fun k=>fl Qt2 t13 m 0 Aa k z z fun a k=>oE h fun Aw As h=>cE k m call139 z z z (Qcr fu _ _ _  As) fun Az e a k m=>pN 2 k z fun a k=>?_;have k:=k.keep [2] z;refine nn (wp_ret (fS h k m z z))
           have h:=Qav Ac h;refine rB k 31 z Ac fun k=>pN 5 k z fun a k=>?_;have k:=k.keep [2] z;refine nn (wp_ret (fS h k m z z))
         have h:=Qav Ab h;refine rB k 26 z Ab fun k=>pN 10 k z fun a k=>?_;have k:=k.keep [2] z;refine nn (wp_ret (fS h k m z z))
       have h:=Qav Ae h;refine rB k 21 z Ae fun k=>pN 15 k z fun a k=>?_;have k:=k.keep [2] z;refine nn (wp_ret (fS h k m z z))
     have h:=Qav Ad h;refine rB k 16 z Ad fun k=>pN 20 k z fun a k=>?_;have k:=k.keep [2] z;refine nn (wp_ret (fS h k m z z))
   have h:=Qav Ag h;refine rB k 11 z Ag fun k=>pN 25 k z fun a k=>?_;have k:=k.keep [2] z;refine nn (wp_ret (fS h k m z z))
 have h:=Qav Af h;refine rB k 6 z Af fun k=>pN 30 k z fun a k=>?_;have k:=k.keep [2] z;refine nn (wp_ret (fS h k m z z))
theorem Qyl (fu:Nat) {w0:World} (r1:Request) {Aq:List Value} {F3:List Nat} (Az:rd w0 F3 Aq r1) {r:Bool}
    (h:Qni fu r1 = some r) :
    Calls Tryz.prog 271 #[.agg Aq.toArray] w0 fun e w=>e = .returned (.bool (r)) ∧ Ext [] w0 w:=by
 refine enter (vs:=[_]) func271 z ntmps271 z fun a k=>?_;have m:=St.start w0;obtain ⟨v5,F6,v7,F8,v9,Cl,rfl,rfl,Am,Ao,Af⟩:=Az;unfold Qni at h;refine wr (Qbd (cs:=[I r1.fWay,I r1.fPallet.fW,I r1.fPallet.fD,I r1.fPallet.fH,I r1.fPallet.fGram,I r1.fClasses,v5,v7,I r1.fMaster,v9]) m k z z z z z z fun Al Ap a k m e Aa=>pN 1 k z fun a k=>nn (Qci (fun a w=>K 70 [(1,pt Al)] a ∧ St [] w0 w [([Al],Ap)] ∧ Qm6 fu r1 = some r) ?_ ?_))
 · rintro a Cf ⟨k,m,h⟩;unfold Qm6 at h;refine wp_seq (wr (fl Qnp Qz0 m 0 Aa k z z fun a k=>oE h fun Bw Av h=>cE k m call304 z z z (Qf8 fu _ _ (m.r Am) ⟨305,[],z,call305,fun w Cj Ca r e Bn hx=>by subst Bn; have m:=m.step e; exact Qwa fu _  hx⟩ Av) fun Bx e a k m=>nn (cI h k rfl (fun Au h=>?_) fun Au h=>?_)))
   · refine wr (pN 1 k z fun a k=>nn (wp_ret (Qac ?_)));refine fS h k m z z
   refine wp_skip (Qaa ?_);refine Qci (fun a w=>K 70 [(1,pt Al)] a ∧ St [] w0 w [([Al],Ap)] ∧ Qnc fu r1 = some r) ?_ ?_
   · rintro a Br ⟨k,m,h⟩;unfold Qnc at h;refine wr (pN 1 k z fun a k=>nn (wp_seq (wr (fl Qgt Quw m 0 Aa k z z fun a k=>sv k z (Qa4 (α:=Item) Af k underlying36 z z) fun a k=>pN 1 k z fun a k=>nn (wp_block (Qat (fun n a w=>∃ (Ak:Int) (Aj:Int),K 70 [(3,I Ak),(54,v9),(55,I ((r1.fItems.length:Int))),(56,I Aj)] a ∧ St [] w0 w [] ∧ Qek fu r1 n Ak Aj = some r) ?_ ?_ fu _ _ ?_))))))
     · rintro a w ⟨_,_,_,_,h⟩;exact nS h
     · rintro Ci a Ck ⟨Ak,Aj,k,m,h⟩;rw [Qek.eq_2] at h;unfold Qi2 at h;refine wr (pN 1 k z fun a k=>nn (wp_seq (cI h k z (fun Bb h=>?_) fun Bb h=>?_)))
       · refine wp_skip (Qaa ?_);refine wp_seq (wp_block (wr (oE h fun Ab As h=>sv k z (Qan Af As k Qyt z z z) fun a k=>sv k z (Qh2 Af (m.a00 (Enc.rd_lt Af)) As Qsx k z z) fun a k=>Qa2 (cs:=[I 0,I 0,I 0,I 0,I 0,I 0,I 0]) m k zeroValue158 z z z z z fun Bu Bq a k m e Bi=>Qa3 (cs':=[I Ab.fId,I Ab.fW,I Ab.fH,I Ab.fD,I Ab.fGram,I Ab.fClass,I Ab.fCount]) sizeOf158 m 0 Bi 0 k z z z z z z z z z z z fun Cg a k e m Ar=>nn (wp_seq (wr (sv k z (Qa5 Qsx m 0 Ar 0 k z z z z z z) fun a k=>oE h fun Cc Bf h=>cE k m call308 z z z (Q1h fu (Ab:Item)  Bf) fun Cb e a k m=>?_))))));refine pN 1 k z fun a k=>nn (cI h k z (fun Be h=>?_) fun Be h=>?_)
         · refine wr (pN 1 k z fun a k=>nn (wp_ret (Qac (Qaf (Qac (Qac (Qaf (Qac ?_))))))));refine fS h k m z z
         refine wp_skip (Qaa ?_);refine wp_region_lit (pN 1 k z fun a k=>fl Qt2 t13 m 0 Ar k z z fun a k=>pN 2 k z fun a k=>wpList_nil (Qae (Qaa ?_)));refine wp_region_lit (pN 2 k z fun a k=>nn ?_);exact ⟨w64 (Ak + Ab.fCount),w64 (Aj + 1),k.keep [3,54,55,56] z,m.sel [] z (by decide),h⟩
       refine wp_exit (Qag (Qag (Qao (Qaa ?_))));refine wr (pN 3 k z fun a k=>nn (wp_ret (fS h k m z z)))
     exact ⟨0,0,k.keep [3,54,55,56] z,m.sel [] z (by decide),h⟩
   refine wr (fl Qec Qt0 m 0 Aa k z z fun a k=>sv k z (Qa4 (α:=Typ) Ao k underlying35 z z) fun a k=>oE h fun Bl Bo h=>cE k m call139 z z z (Qcr fu _ _ _  Bo) fun Ch e a k m=>pN 2 k z fun a k=>Qam (!Bl) (fun Ad=>?_) (fun Ad=>?_))
   · have h:=Qaw Ad h;refine rB k 36 z Ad fun k=>pN 16 k z fun a k=>?_;have k:=k.keep [1,52] z;refine nn (wp_cond_true (k.ev z) (wr (pN 1 k z fun a k=>nn (wp_ret (Qac ?_)))));refine fS h k m z z
   have h:=Qav Ad h;refine rB k 36 z Ad fun k=>fl Qec Qt0 m 0 Aa k z z fun a k=>oE h fun Aw Ay h=>cE k m call275 z z z (Qdl fu _ _ (m.r Ao) ⟨306,[],z,call306,fun w Bs Ce r e Bp hx=>by subst Bp; have m:=m.step e; exact Qv5 fu _  hx⟩ Ay) fun Bz e a k m=>pN 2 k rfl fun a k=>Qam (Aw) (fun Ah=>?_) (fun Ah=>?_)
   · have h:=Qaw Ah h;refine rB k 41 z Ah fun k=>pN 11 k z fun a k=>?_;have k:=k.keep [1,52] z;refine nn (wp_cond_true (k.ev z) (wr (pN 1 k z fun a k=>nn (wp_ret (Qac ?_)))));refine fS h k m z z
   have h:=Qav Ah h;refine rB k 41 z Ah fun k=>fl Q19 t13 m 0 Aa k z z fun a k=>oE h fun At Bm h=>cE k m call139 z z z (Qcr fu _ _ _  Bm) fun Cd e a k m=>pN 3 k z fun a k=>Qam (!At) (fun Ae=>?_) (fun Ae=>?_)
   · have h:=Qaw Ae h;refine rB k 47 z Ae fun k=>pN 5 k z fun a k=>?_;have k:=k.keep [1,52] z;refine nn (wp_cond_true (k.ev z) (wr (pN 1 k z fun a k=>nn (wp_ret (Qac ?_)))));refine fS h k m z z
   have h:=Qav Ae h;refine rB k 47 z Ae fun k=>fl Qgt Quw m 0 Aa k z z fun a k=>sv k z (Qa4 (α:=Item) Af k underlying36 z z) fun a k=>pN 2 k z fun a k=>?_;have k:=k.keep [1,52] z;refine nn (cI h k z (fun Bh h=>?_) fun Bh h=>?_)
   · refine wr (pN 1 k z fun a k=>nn (wp_ret (Qac ?_)));refine fS h k m z z
   refine wp_skip (Qaa ?_);exact ⟨k.keep [1] z,m.sel [0] z (by decide),h⟩
 refine wr (fl Q42 t13 m 0 Aa k z z fun a k=>oE h fun Bk Bc h=>cE k m call139 z z z (Qcr fu _ _ _  Bc) fun Bv e a k m=>pN 2 k z fun a k=>Qam (!Bk) (fun Ac=>?_) (fun Ac=>?_))
 · have h:=Qaw Ac h;refine rB k 10 z Ac fun k=>pN 17 k z fun a k=>nn (wp_cond_true (k.ev z) (wr (pN 1 k z fun a k=>?_)));have k:=k.keep [2] z;refine nn (wp_ret (Qac ?_));refine fS h k m z z
 have h:=Qav Ac h;refine rB k 10 z Ac fun k=>sv k z (Qa6 Qrw k z z) fun a k=>sv k z (Qa5 Q1a m 0 Aa 1 k z z z z z z) fun a k=>oE h fun Bj Ba h=>cE k m call303 z z z (Qxw fu (r1.fPallet:Pallet)  Ba) fun By e a k m=>pN 3 k z fun a k=>Qam (!Bj) (fun Ai=>?_) (fun Ai=>?_)
 · have h:=Qaw Ai h;refine rB k 16 z Ai fun k=>pN 11 k z fun a k=>nn (wp_cond_true (k.ev z) (wr (pN 1 k z fun a k=>?_)));have k:=k.keep [2] z;refine nn (wp_ret (Qac ?_));refine fS h k m z z
 have h:=Qav Ai h;refine rB k 16 z Ai fun k=>fl Qs3 t13 m 0 Aa k z z fun a k=>oE h fun Bg Bd h=>cE k m call139 z z z (Qcr fu _ _ _  Bd) fun Bt e a k m=>pN 3 k z fun a k=>Qam (!Bg) (fun Ag=>?_) (fun Ag=>?_)
 · have h:=Qaw Ag h;refine rB k 22 z Ag fun k=>pN 5 k z fun a k=>nn (wp_cond_true (k.ev z) (wr (pN 1 k z fun a k=>?_)));have k:=k.keep [2] z;refine nn (wp_ret (Qac ?_));refine fS h k m z z
 have h:=Qav Ag h;refine rB k 22 z Ag fun k=>fl Qnp Qz0 m 0 Aa k z z fun a k=>sv k z (Qa4 (α:=Pair) Am k underlying34 z z) fun a k=>pN 2 k z fun a k=>nn (cI h k z (fun Ax h=>?_) fun Ax h=>?_)
 · refine wr (pN 1 k z fun a k=>?_);have k:=k.keep [2] z;refine nn (wp_ret (Qac ?_));refine fS h k m z z
 refine wp_skip (Qaa ?_);exact ⟨k.keep [1] z,m.sel [0] z (by decide),h⟩
theorem Qwy (fu:Nat) {w0:World} (q1:Typ) (x2:Typ) {b3:Nat} (Aa:bx w0 b3 [I x2.fId,I x2.fW,I x2.fH,I x2.fD,I x2.fTare,I x2.fGram,I x2.fCost] 79) {r:Bool}
    (h:Qpx fu q1 x2 = some r) :
    Calls Tryz.prog 309 #[.agg (Flat.e (q1)).toArray,pt b3] w0 fun e w=>e = .returned (.bool (r)) ∧ Ext [] w0 w:=by
 refine enter (vs:=[_,_]) func309 z ntmps309 z fun a k=>?_;have m:=St.start w0;unfold Qpx at h;refine wr (Qbd (cs:=[I q1.fId,I q1.fW,I q1.fH,I q1.fD,I q1.fTare,I q1.fGram,I q1.fCost]) m k z z z z z z fun b5 w7 a k m e Ab=>pN 1 k z fun a k=>nn (wr (fl Qr7 t13 m 0 Ab k z z fun a k=>sv k z (Qa6 Qr7 k z z) fun a k=>sv k z (Qap t13 (r:=[]) (Aa.at (m.a00 Aa.lt1) 0 1 z z z) k z z) fun a k=>pN 2 k z fun a k=>nn (wp_ret (fS h k m z z)))))
theorem Qww (fu:Nat) {w0:World} (q1:Item) (x2:Item) {b3:Nat} (Aa:bx w0 b3 [I x2.fId,I x2.fW,I x2.fH,I x2.fD,I x2.fGram,I x2.fClass,I x2.fCount] 158) {r:Bool}
    (h:Qpv fu q1 x2 = some r) :
    Calls Tryz.prog 310 #[.agg (Flat.e (q1)).toArray,pt b3] w0 fun e w=>e = .returned (.bool (r)) ∧ Ext [] w0 w:=by
 refine enter (vs:=[_,_]) func310 z ntmps310 z fun a k=>?_;have m:=St.start w0;unfold Qpv at h;refine wr (Qbd (cs:=[I q1.fId,I q1.fW,I q1.fH,I q1.fD,I q1.fGram,I q1.fClass,I q1.fCount]) m k z z z z z z fun b5 w7 a k m e Ab=>pN 1 k z fun a k=>nn (wr (fl Qvy t13 m 0 Ab k z z fun a k=>sv k z (Qa6 Qvy k z z) fun a k=>sv k z (Qap t13 (r:=[]) (Aa.at (m.a00 Aa.lt1) 0 1 z z z) k z z) fun a k=>pN 2 k z fun a k=>nn (wp_ret (fS h k m z z)))))
theorem Qoo (fu:Nat) {w0:World} (Aa:List Item) (f5:Item → Option Bool) {v2:Value} {F3:List Nat} (Ac:rd w0 F3 [v2] Aa) {v6:Value} (Al:Qxh Tryz.prog w0 v6 f5) {r:Int}
    (h:Qbz fu Aa f5 = some r) :
    Calls Tryz.prog 239 #[v2,v6] w0 fun e w=>e = .returned (I r) ∧ Ext [] w0 w:=by
 refine enter (vs:=[_,_]) func239 z ntmps239 z fun a k=>?_;have m:=St.start w0;obtain ⟨Aj,Ae,rfl,Ak,Af⟩:=Al;unfold Qbz at h;refine wr (pN 1 k z fun a k=>nn (wp_seq (wr (pN 1 k z fun a k=>sv k z (Qa4 (α:=Item) Ac k underlying36 z z) fun a k=>pN 1 k z fun a k=>nn (wp_block (Qat (fun n a w=>∃ (Ab:Int),K 19 [(0,v2),(1,(.func (.func Aj) #[] Ae.toArray)),(7,I ((Aa.length:Int))),(8,I Ab)] a ∧ St [] w0 w [] ∧ Qa7 fu Aa f5 n Ab = some r) ?_ ?_ fu _ _ ?_))))))
 · rintro a w ⟨_,_,_,h⟩;exact nS h
 · rintro Ar a Ao ⟨Ab,k,m,h⟩;rw [Qa7.eq_2] at h;unfold Qb6 at h;refine wr (pN 1 k z fun a k=>nn (wp_seq (cI h k z (fun Ag h=>?_) fun Ag h=>?_)))
   · refine wp_skip (Qaa ?_);refine wp_seq (wp_block (wr (pN 2 k z fun a k=>nn (wr (pN 3 k z fun a k=>oE h fun Aq Ad h=>sv k z (Qan Ac Ad k Qyt z z z) fun a k=>sv k z (Qh2 Ac (m.a00 (Enc.rd_lt Ac)) Ad Qsx k z z) fun a k=>oE h fun Am Ai h=>Qu2 k Ak z z z z z z (Af _ _ _ _ m.ext z Ai) fun As Ap hR=>?_)))));obtain ⟨rfl,e⟩:=hR;refine ⟨_,z,fun a k=>?_⟩;have m:=m.step e;refine nn (cI h k z (fun Ah h=>?_) fun Ah h=>?_)
     · refine wr (pN 2 k z fun a k=>nn (wp_ret (Qaf (Qac (Qac (Qaf (Qac ?_)))))));refine fS h k m z z
     refine wp_skip (Qae (Qaa ?_));refine wp_region_lit (pN 2 k z fun a k=>nn ?_);exact ⟨w64 (Ab + 1),k.keep [0,1,7,8] z,m.sel [] z (by decide),h⟩
   refine wp_exit (Qag (Qag (Qao (Qaa ?_))));refine wr (pN 1 k z fun a k=>nn (wp_ret (fS h k m z z)))
 exact ⟨0,k.keep [0,1,7,8] z,m.sel [] z (by decide),h⟩
theorem Qck (fu:Nat) {w0:World} (Aa:List Item) (f5:Item → Option Bool) {v2:Value} {F3:List Nat} (Ab:rd w0 F3 [v2] Aa) {v6:Value} (Ae:Qxh Tryz.prog w0 v6 f5) {r:Bool}
    (h:Qax fu Aa f5 = some r) :
    Calls Tryz.prog 148 #[v2,v6] w0 fun e w=>e = .returned (.bool (r)) ∧ Ext [] w0 w:=by
 refine enter (vs:=[_,_]) func148 z ntmps148 z fun a k=>?_;have m:=St.start w0;obtain ⟨Ak,Ai,rfl,Ah,Ad⟩:=Ae;unfold Qax at h;refine wr (pN 1 k z fun a k=>nn (wr (pN 2 k z fun a k=>oE h fun Al Ag h=>cE k m call239 z z z (Qoo fu _ _ (m.r Ab) ⟨_,_,z,Ah,fun w Af Ac r e=>Ad w Af Ac r (m.ext.trans e (by simp))⟩ Ag) fun Aj e a k m=>pN 2 k z fun a k=>nn (wp_ret (fS h k m z z)))))
theorem Qwx (fu:Nat) {w0:World} (p1:Pair) (x2:Request) {v5:Value} {F6:List Nat} {v8:Value} {F9:List Nat} {Ad:Value} {Ae:List Nat} {b3:Nat} (Ab:bx w0 b3 [I x2.fWay,I x2.fPallet.fW,I x2.fPallet.fD,I x2.fPallet.fH,I x2.fPallet.fGram,I x2.fClasses,v5,v8,I x2.fMaster,Ad] 38) (Ah:rd w0 F6 [v5] x2.fPairs) (Ai:rd w0 F9 [v8] x2.fTypes) (Af:rd w0 Ae [Ad] x2.fItems) {r:Bool}
    (h:Ql4 fu p1 x2 = some r) :
    Calls Tryz.prog 311 #[.agg (Flat.e (p1)).toArray,pt b3] w0 fun e w=>e = .returned (.bool (r)) ∧ Ext [] w0 w:=by
 refine enter (vs:=[_,_]) func311 z ntmps311 z fun a k=>?_;have m:=St.start w0;unfold Ql4 at h;refine wr (Qbd (cs:=[I p1.fA,I p1.fB]) m k z z z z z z fun Ag Aj a k m e Ac=>pN 1 k z fun a k=>nn (wr (fl Qyh t13 m 0 Ac k z z fun a k=>sv k z (Qa6 Qs3 k z z) fun a k=>sv k z (Qap t13 (r:=[]) (Ab.at (m.a00 Ab.lt1) 5 1 z z z) k z z) fun a k=>pN 2 k z fun a k=>Qam (decide (p1.fA ≥ x2.fClasses)) (fun Aa=>?_) (fun Aa=>?_))))
 · have h:=Qaw Aa h;refine rB k 9 z Aa fun k=>pN 7 k z fun a k=>nn (wp_ret (fS h k m z z))
 have h:=Qav Aa h;refine rB k 9 z Aa fun k=>fl Qxn t13 m 0 Ac k z z fun a k=>sv k z (Qa6 Qs3 k z z) fun a k=>sv k z (Qap t13 (r:=[]) (Ab.at (m.a00 Ab.lt1) 5 1 z z z) k z z) fun a k=>pN 3 k z fun a k=>nn (wp_ret (fS h k m z z))
theorem Qzf (fu:Nat) {w0:World} (r1:Request) {As:List Value} {F3:List Nat} (Ay:rd w0 F3 As r1) {r:Bool}
    (h:Qoy fu r1 = some r) :
    Calls Tryz.prog 272 #[.agg As.toArray] w0 fun e w=>e = .returned (.bool (r)) ∧ Ext [] w0 w:=by
 refine enter (vs:=[_]) func272 z ntmps272 z fun a k=>?_;have m:=St.start w0;obtain ⟨v5,F6,v7,F8,v9,Cs,rfl,rfl,Ah,Ab,Aa⟩:=Ay;unfold Qoy at h;refine wr (Qbd (cs:=[I r1.fWay,I r1.fPallet.fW,I r1.fPallet.fD,I r1.fPallet.fH,I r1.fPallet.fGram,I r1.fClasses,v5,v7,I r1.fMaster,v9]) m k z z z z z z fun Af Am a k m e Ae=>pN 1 k z fun a k=>nn (wp_seq (wr (fl Qec Qt0 m 0 Ae k z z fun a k=>sv k z (Qa4 (α:=Typ) Ab k underlying35 z z) fun a k=>pN 1 k z fun a k=>nn (wp_block (Qat (fun n a w=>∃ (Al:Int),K 59 [(1,pt Af),(10,v7),(11,I ((r1.fTypes.length:Int))),(12,I Al)] a ∧ St [] w0 w [([Af],Am)] ∧ Qfa fu r1 n Al = some r) ?_ ?_ fu _ _ ?_))))))
 · rintro a w ⟨_,_,_,h⟩;exact nS h
 · rintro Bt a Bz ⟨Al,k,m,h⟩;rw [Qfa.eq_2] at h;unfold Qkx at h;refine wr (pN 1 k z fun a k=>nn (wp_seq (cI h k z (fun Bi h=>?_) fun Bi h=>?_)))
   · refine wp_skip (Qaa ?_);refine wp_seq (wp_block (wr (pN 1 k z fun a k=>oE h fun Ag Aq h=>sv k z (Qan Ab Aq k Q1v z z z) fun a k=>sv k z (Qh2 Ab (m.a00 (Enc.rd_lt Ab)) Aq Qst k z z) fun a k=>Qa2 (cs:=[I 0,I 0,I 0,I 0,I 0,I 0,I 0]) m k zeroValue79 z z z z z fun Bn Cf a k m e Bb=>pN 1 k z fun a k=>Qa3 (cs':=[I Ag.fId,I Ag.fW,I Ag.fH,I Ag.fD,I Ag.fTare,I Ag.fGram,I Ag.fCost]) sizeOf79 m 0 Bb 0 k z z z z z z z z z z z fun Bs a k e m Au=>nn (wr (fl Qec Qt0 m 1 Ae k z z fun a k=>pN 1 k z fun a k=>oE h fun Co Bl h=>?_)))));refine Q8f Ab Bl k Q1v z z z z z z fun Cb a k Ar=>pN 1 k z fun a k=>oE h fun Ck Bg h=>cE k m call275 z z z (Qdl fu _ _ (m.r Ar) ⟨309,[pt Bn],z,call309,fun w Cl Bu r e Bk hx=>by subst Bk; have m:=m.step e; exact Qwy fu _ _ (Au.agr (m.a 0 rfl) (by simp)) hx⟩ Bg) fun Cq e a k m=>nn (cI h k rfl (fun Az h=>?_) fun Az h=>?_)
     · refine wr (pN 1 k z fun a k=>nn (wp_ret (Qaf (Qac (Qac (Qaf (Qac ?_)))))));refine fS h k m z z
     refine wp_skip (Qae (Qaa ?_));refine wp_region_lit (pN 2 k z fun a k=>nn ?_);exact ⟨w64 (Al + 1),k.keep [1,10,11,12] z,m.sel [1] z (by decide),h⟩
   refine wp_exit (Qag (Qag (Qao (Qaa ?_))));refine wp_seq (wr (fl Qgt Quw m 0 Ae k z z fun a k=>sv k z (Qa4 (α:=Item) Aa k underlying36 z z) fun a k=>pN 1 k z fun a k=>nn (wp_block (Qat (fun n a w=>∃ (Ai:Int),K 59 [(1,pt Af),(25,v9),(26,I ((r1.fItems.length:Int))),(27,I Ai)] a ∧ St [] w0 w [([Af],Am)] ∧ Qdb fu r1 n Ai = some r) ?_ ?_ fu _ _ ?_))))
   · rintro a w ⟨_,_,_,h⟩;exact nS h
   · rintro Av a Cj ⟨Ai,k,m,h⟩;rw [Qdb.eq_2] at h;unfold Qlx at h;refine wr (pN 1 k z fun a k=>nn (wp_seq (cI h k z (fun Be h=>?_) fun Be h=>?_)))
     · refine wp_skip (Qaa ?_);refine Qci (fun a w=>K 59 [(1,pt Af),(25,v9),(26,I ((r1.fItems.length:Int))),(27,I Ai)] a ∧ St [] w0 w [([Af],Am)] ∧ Qn5 fu (Qdb fu r1 Av) Ai = some r) ?_ ?_
       · rintro a Cm ⟨k,m,h⟩;unfold Qn5 at h;refine wp_region_lit (pN 2 k z fun a k=>nn ?_);exact ⟨w64 (Ai + 1),k.keep [1,25,26,27] z,m.sel [0] z (by decide),h⟩
       refine wp_block (wr (pN 1 k z fun a k=>oE h fun Ad At h=>sv k z (Qan Aa At k Qyt z z z) fun a k=>sv k z (Qh2 Aa (m.a00 (Enc.rd_lt Aa)) At Qsx k z z) fun a k=>Qa2 (cs:=[I 0,I 0,I 0,I 0,I 0,I 0,I 0]) m k zeroValue158 z z z z z fun Ax Cr a k m e Bh=>pN 1 k z fun a k=>Qa3 (cs':=[I Ad.fId,I Ad.fW,I Ad.fH,I Ad.fD,I Ad.fGram,I Ad.fClass,I Ad.fCount]) sizeOf158 m 0 Bh 0 k z z z z z z z z z z z fun By a k e m Ap=>nn (wr (fl Qs9 t13 m 0 Ap k z z fun a k=>?_))));refine fl Qs3 t13 m 1 Ae k z z fun a k=>pN 2 k z fun a k=>Qam (decide (Ad.fClass ≥ r1.fClasses)) (fun Aj=>?_) (fun Aj=>?_)
       · have h:=Qaw Aj h;refine rB k 37 z Aj fun k=>pN 7 k z fun a k=>nn (wp_cond_true (k.ev z) (wr (pN 1 k z fun a k=>nn (wp_ret (Qaf (Qac (Qac (Qaf (Qac ?_)))))))));refine fS h k m z z
       have h:=Qav Aj h;refine rB k 37 z Aj fun k=>fl Qgt Quw m 1 Ae k z z fun a k=>pN 1 k z fun a k=>oE h fun Bv Aw h=>Q8f Aa Aw k Qyt z z z z z z fun Bq a k Ao=>pN 1 k z fun a k=>oE h fun Bw Bo h=>cE k m call148 z z z (Qck fu _ _ (m.r Ao) ⟨310,[pt Ax],z,call310,fun w Cd Bx r e Bj hx=>by subst Bj; have m:=m.step e; exact Qww fu _ _ (Ap.agr (m.a 0 rfl) (by simp)) hx⟩ Bo) fun Cp e a k m=>pN 1 k rfl fun a k=>nn (cI h k rfl (fun Bc h=>?_) fun Bc h=>?_)
       · refine wr (pN 1 k z fun a k=>nn (wp_ret (Qaf (Qac (Qac (Qaf (Qac ?_)))))));refine fS h k m z z
       refine wp_skip (Qae (Qaa ?_));exact ⟨k.keep [1,25,26,27] z,m.sel [1] z (by decide),h⟩
     refine wp_exit (Qag (Qag (Qao (Qaa ?_))));refine wr (sv k z (Qa5 Qeg m 0 Ae 0 k z z z z z z) fun a k=>oE h fun Ac Bm h=>cE k m call250 z z z (Qty fu _ (Qah (m.r Ah) (m.r Ab) (m.r Aa)) Bm) fun Ca e a k m=>pN 3 k z fun a k=>Qa2 (cs:=[I 0,I 0,I 0,I 0,I 0,I 0,I 0]) m k zeroValue79 z z z z z fun Cc Cn a k m e Ba=>?_);refine Qa3 (cs':=[I Ac.1.fId,I Ac.1.fW,I Ac.1.fH,I Ac.1.fD,I Ac.1.fTare,I Ac.1.fGram,I Ac.1.fCost]) sizeOf79 m 0 Ba 0 k z z z z z z z z z z z fun Bp a k e m Ci=>pN 1 k z fun a k=>nn (wr (pN 2 k z fun a k=>Qam (Ac.2) (fun Ak=>?_) (fun Ak=>?_)))
     · have h:=Qaw Ak h;refine rB k 52 z Ak fun k=>fl Qnp Qz0 m 1 Ae k z z fun a k=>pN 1 k z fun a k=>oE h fun Cg Bd h=>cE k m call304 z z z (Qf8 fu _ _ (m.r Ah) ⟨311,[pt Af],z,call311,fun w Ce Ch r e Bf hx=>by subst Bf; have m:=m.step e; exact Qwx fu _ _ (Ae.agr (m.a 1 rfl) (by simp)) (m.r Ah) (m.r Ab) (m.r Aa) hx⟩ Bd) fun Br e a k m=>pN 3 k rfl fun a k=>nn (wp_ret (fS h k m rfl rfl))
     have h:=Qav Ak h;refine rB k 52 z Ak fun k=>pN 7 k z fun a k=>nn (wp_ret (fS h k m z z))
   exact ⟨0,k.keep [1,25,26,27] z,m.sel [0] z (by decide),h⟩
 exact ⟨0,k.keep [1,10,11,12] z,m.sel [0] z (by decide),h⟩
theorem Qqe (fu:Nat) {w0:World} (Ab:List Pair) (v5:Pair) {v2:Value} {F3:List Nat} (Aa:rd w0 F3 [v2] Ab) {r:Int}
    (h:Qda fu Ab v5 = some r) :
    Calls Tryz.prog 296 #[v2,.agg (Flat.e (v5)).toArray] w0 fun e w=>e = .returned (I r) ∧ Ext [] w0 w:=by
 refine enter (vs:=[_,_]) func296 z ntmps296 z fun a k=>?_;have m:=St.start w0;unfold Qda at h;refine wr (Qbd (cs:=[I v5.fA,I v5.fB]) m k z z z z z z fun b6 w9 a k m e Ai=>pN 1 k z fun a k=>nn (wp_seq (wr (pN 1 k z fun a k=>sv k z (Qa4 (α:=Pair) Aa k underlying34 z z) fun a k=>pN 1 k z fun a k=>nn (wp_block (Qat (fun n a w=>∃ (Ac:Int),K 19 [(0,v2),(3,pt b6),(7,I ((Ab.length:Int))),(8,I Ac)] a ∧ St [] w0 w [([b6],w9)] ∧ Qbg fu Ab v5 n Ac = some r) ?_ ?_ fu _ _ ?_))))))
 · rintro a w ⟨_,_,_,h⟩;exact nS h
 · rintro Ak a Aj ⟨Ac,k,m,h⟩;rw [Qbg.eq_2] at h;unfold Qcq at h;refine wr (pN 1 k z fun a k=>nn (wp_seq (cI h k z (fun Ah h=>?_) fun Ah h=>?_)))
   · refine wp_skip (Qaa ?_);refine wp_seq (wp_block (wr (pN 2 k z fun a k=>nn (wp_seq (Qh0 [] Qhb m z fun Ag hMd=>?_)))));have m:=hMd;have s:=Ext.refl ([]:List Nat) Ag;refine dM [1,2] 2 z k z s fun a k=>dT k 0 z z s (fun w s=>Qcb Q81 (Ai.at ((hMd.step s).a 0 z) 0 2 z z z) z k z z) fun a k=>oE h fun Ae Ad h=>dT k 3 z z s (fun w s=>Qan Aa Ad k Q80 z z z) fun a k=>dT k 4 z z s (fun w s=>Qh2 Aa ((hMd.step s).a00 (Enc.rd_lt Aa)) Ad Q81 k z z) fun a k=>dT k 5 z z s (fun w s=>Jgk Jdm (x:=v5) (y:=Ae) k z z z z z) fun a k=>Qal (by kernel_rfl) ((Qaa ?_));refine cI h k z (fun Af h=>?_) fun Af h=>?_
     · refine wr (pN 2 k z fun a k=>nn (wp_ret (Qaf (Qac (Qac (Qaf (Qac ?_)))))));refine fS h k m z z
     refine wp_skip (Qae (Qaa ?_));refine wp_region_lit (pN 2 k z fun a k=>nn ?_);exact ⟨w64 (Ac + 1),k.keep [0,3,7,8] z,m.sel [0] z (by decide),h⟩
   refine wp_exit (Qag (Qag (Qao (Qaa ?_))));refine wr (pN 1 k z fun a k=>nn (wp_ret (fS h k m z z)))
 exact ⟨0,k.keep [0,3,7,8] z,m.sel [0] z (by decide),h⟩
theorem Qov (fu:Nat) {w0:World} (Aa:List Pair) (v5:Pair) {v2:Value} {F3:List Nat} (Ab:rd w0 F3 [v2] Aa) {r:Bool}
    (h:Qcv fu Aa v5 = some r) :
    Calls Tryz.prog 257 #[v2,.agg (Flat.e (v5)).toArray] w0 fun e w=>e = .returned (.bool (r)) ∧ Ext [] w0 w:=by
 refine enter (vs:=[_,_]) func257 z ntmps257 z fun a k=>?_;have m:=St.start w0;unfold Qcv at h;refine wr (Qbd (cs:=[I v5.fA,I v5.fB]) m k z z z z z z fun b6 w9 a k m e Ad=>pN 1 k z fun a k=>nn (wr (pN 1 k z fun a k=>sv k z (Qa5 Q81 m 0 Ad 0 k z z z z z z) fun a k=>oE h fun Ae Ac h=>cE k m call296 z z z (Qqe fu _ (v5:Pair) (m.r Ab) Ac) fun Af e a k m=>pN 2 k z fun a k=>nn (wp_ret (fS h k m z z)))))
theorem Qqt (fu:Nat) {w0:World} (Ab:List Pair) (a5:Int) (b6:Int) {v2:Value} {F3:List Nat} (Aa:rd w0 F3 [v2] Ab) {r:Bool}
    (h:Qg4 fu Ab a5 b6 = some r) :
    Calls Tryz.prog 179 #[v2,I a5,I b6] w0 fun e w=>e = .returned (.bool (r)) ∧ Ext [] w0 w:=by
 refine enter (vs:=[_,_,_]) func179 z ntmps179 z fun a k=>?_;have m:=St.start w0;unfold Qg4 at h;refine wr (pN 1 k z fun a k=>nn (wr (pN 3 k z fun a k=>sv k z (Qbe Q7d k (cs:=#[I a5,I b6]) (ps:=[(0,.tmp 8),(1,.tmp 9)]) z z (by kernel_rfl)) fun a k=>oE h fun x7 Ac h=>cE k m call257 z z z (Qov fu _ (((⟨a5,b6⟩:Pair)):Pair) (m.r Aa) Ac) fun Ad e a k m=>pN 1 k z fun a k=>nn (wp_ret (fS h k m z z)))))
theorem Qza (fu:Nat) {w0:World} (Ad:List Pair) (Aa:Int) {v2:Value} {F3:List Nat} (Ac:rd w0 F3 [v2] Ad) {r:Bool}
    (h:Qpe fu Ad Aa = some r) :
    Calls Tryz.prog 273 #[v2,I Aa] w0 fun e w=>e = .returned (.bool (r)) ∧ Ext [] w0 w:=by
 refine enter (vs:=[_,_]) func273 z ntmps273 z fun a k=>?_;have m:=St.start w0;unfold Qpe at h;refine wr (pN 1 k z fun a k=>nn (wp_seq (wr (pN 1 k z fun a k=>oE h fun x6 Ag h=>cE k m call139 z z z (Qcr fu _ _ _  Ag) fun w9 e a k m=>pN 1 k z fun a k=>nn (cI h k z (fun Al h=>?_) fun Al h=>?_)))))
 · refine wr (pN 1 k z fun a k=>nn (wp_ret (Qac ?_)));refine fS h k m z z
 refine wp_skip (Qaa ?_);refine wp_seq (wr (pN 2 k z fun a k=>nn (wp_block (Qat (fun n a w=>∃ (Ab:Int),K 34 [(0,v2),(1,I Aa),(10,I Aa),(11,I Ab)] a ∧ St [] w0 w [] ∧ Qez fu Ad Aa n Ab = some r) ?_ ?_ fu _ _ ?_))))
 · rintro a w ⟨_,_,_,h⟩;exact nS h
 · rintro Am a Av ⟨Ab,k,m,h⟩;rw [Qez.eq_2] at h;unfold Qlj at h;refine wr (pN 1 k z fun a k=>nn (wp_seq (cI h k z (fun Ak h=>?_) fun Ak h=>?_)))
   · refine wp_skip (Qaa ?_);refine wp_seq (wp_block (wr (pN 2 k z fun a k=>nn (wp_seq (wr (pN 3 k z fun a k=>oE h fun Aw Ao h=>cE k m call179 z z z (Qqt fu _ _ _ (m.r Ac) Ao) fun Au e a k m=>pN 1 k z fun a k=>nn (cI h k z (fun Aj h=>?_) fun Aj h=>?_)))))))
     · refine wr (pN 1 k z fun a k=>nn (wp_ret (Qac (Qaf (Qac (Qac (Qaf (Qac ?_))))))));refine fS h k m z z
     refine wp_skip (Qaa ?_);refine wr (pN 2 k z fun a k=>nn (wp_block (Qat (fun n a w=>∃ (Ae:Int),K 34 [(0,v2),(1,I Aa),(5,I Ab),(10,I Aa),(11,I Ab),(19,I Aa),(20,I Ae)] a ∧ St [] w0 w [] ∧ Qe9 fu (Qez fu Ad Aa Am) Ad Aa Ab n Ae = some r) ?_ ?_ fu _ _ ?_)))
     · rintro a w ⟨_,_,_,h⟩;exact nS h
     · rintro Ax a Ay ⟨Ae,k,m,h⟩;rw [Qe9.eq_2] at h;unfold Qkl at h;refine wr (pN 1 k z fun a k=>nn (wp_seq (cI h k z (fun Af h=>?_) fun Af h=>?_)))
       · refine wp_skip (Qaa ?_);refine wp_seq (wp_block (wr (pN 2 k z fun a k=>nn (wr (pN 3 k z fun a k=>oE h fun Ar Ap h=>cE k m call179 z z z (Qqt fu _ _ _ (m.r Ac) Ap) fun As e a k m=>pN 3 k z fun a k=>oE h fun At Ai h=>cE k m call179 z z z (Qqt fu _ _ _ (m.r Ac) Ai) fun Aq e a k m=>sv k z (Q9z k underlying4 z z z) fun a k=>nn (cI h k z (fun Ah h=>?_) fun Ah h=>?_))))))
         · refine wr (pN 1 k z fun a k=>nn (wp_ret (Qaf (Qac (Qac (Qaf (Qaf (Qac (Qac (Qaf (Qac ?_)))))))))));refine fS h k m z z
         refine wp_skip (Qae (Qaa ?_));refine wp_region_lit (pN 2 k z fun a k=>nn ?_);exact ⟨w64 (Ae + 1),k.keep [0,1,5,10,11,19,20] z,m.sel [] z (by decide),h⟩
       refine wp_exit (Qag (Qag (Qao (Qae (Qaa ?_)))));refine wp_region_lit (pN 2 k z fun a k=>nn ?_);exact ⟨w64 (Ab + 1),k.keep [0,1,10,11] z,m.sel [] z (by decide),h⟩
     exact ⟨0,k.keep [0,1,5,10,11,19,20] z,m.sel [] z (by decide),h⟩
   refine wp_exit (Qag (Qag (Qao (Qaa ?_))));refine wr (pN 1 k z fun a k=>nn (wp_ret (fS h k m z z)))
 exact ⟨0,k.keep [0,1,10,11] z,m.sel [] z (by decide),h⟩
theorem Qil (fu:Nat) {w0:World} (x1:List Int) {v2:Value} {F3:List Nat} (Aa:ow w0 F3 [v2] x1) {r:List Int}
    (h:Qc4 fu x1 = some r) :
    Calls Tryz.prog 120 #[v2] w0 fun e w=>∃ H:List Nat,e = .returned (.tuple #[]) ∧ Ext F3 w0 w ∧ (∀ b ∈ H,b ∈ F3 ∨ w0.heap.size ≤ b) ∧ ow w H [v2] r :=
  (Q63 (fun blk off cap zs w=>Tryz.slices_Sort_int blk off cap zs w) (fun p cap w=>Tryz.slices_Sort_int_none p cap w) x1 Aa h).mono fun e w ⟨h1,h2,h3⟩=>⟨_,h1,h2,fun b hb=>.inl hb,h3⟩

theorem Qx6 (fu:Nat) {w0:World} (x1:Item) (t2:Typ)  {r:Bool}
    (h:Qrj fu x1 t2 = some r) :
    Calls Tryz.prog 151 #[.agg (Flat.e (x1)).toArray,.agg (Flat.e (t2)).toArray] w0 fun e w=>e = .returned (.bool (r)) ∧ Ext [] w0 w:=by
 refine enter (vs:=[_,_]) func151 z ntmps151 z fun a k=>?_;have m:=St.start w0;unfold Qrj at h;refine wr (Qbd (cs:=[I x1.fId,I x1.fW,I x1.fH,I x1.fD,I x1.fGram,I x1.fClass,I x1.fCount]) m k z z z z z z fun b3 w5 a k m e Ag=>Qbd (cs:=[I t2.fId,I t2.fW,I t2.fH,I t2.fD,I t2.fTare,I t2.fGram,I t2.fCost]) m k z z z z z z fun b6 w9 a k m e Af=>pN 1 k z fun a k=>nn ?_);refine Qci (fun a w=>∃ (Ah:List Int) (Aj:Value) (Ai:List Nat) (Ao:World) (Ak:List Int) (Al:Value) (Am:List Nat) (Ap:World),K 57 [(2,pt b3),(3,pt b6),(5,Aj),(6,Al)] a ∧ St [] w0 w [([b3],w5),([b6],w9),(Ai,Ao),(Am,Ap)] ∧ ow Ao Ai [Aj] Ah ∧ ow Ap Am [Al] Ak ∧ Qrv fu x1 t2 Ah Ak = some r) ?_ ?_
 · rintro a Ct ⟨Ah,Aj,Ai,Ao,Ak,Al,Am,Ap,k,m,By,Cd,h⟩;unfold Qrv at h;refine wr (pN 1 k z fun a k=>oE h fun Ce Bs h=>Qak k call120 z z z z z (Qil fu _ (m.v By 2 z) Bs) fun Ci Cs hR=>?_);obtain ⟨Cl,rfl,e,Bq,Ab⟩:=hR;refine ⟨_,z,fun a k=>?_⟩;have m:=m.mut 2 z e _ (fun b hb=>⟨Bq b hb,Enc.rd_lt (Enc.ow_rd Ab) b hb⟩) (Enc.ow_nd Ab);refine nn (wr (pN 1 k z fun a k=>oE h fun Cn Bl h=>Qak k call120 z z z z z (Qil fu _ (m.v Cd 3 z) Bl) fun Ck Cg hR=>?_));obtain ⟨Cm,rfl,e,Bv,Aa⟩:=hR;refine ⟨_,z,fun a k=>?_⟩;have m:=m.mut 3 z e _ (fun b hb=>⟨Bv b hb,Enc.rd_lt (Enc.ow_rd Aa) b hb⟩) (Enc.ow_nd Aa);refine nn (wp_seq (Qh0 [] Qhb m z fun Br hMd=>?_));have m:=hMd;have s:=Ext.refl ([]:List Nat) Br
   refine dM [0,3] 2 z k z s fun a k=>oE h fun Bt Aw h=>dT k 1 z z s (fun w s=>Qan (Enc.ow_rd Ab) Aw k Qhh z z z) fun a k=>dT k 2 z z s (fun w s=>Qaz (Enc.ow_rd Ab) ((hMd.step s).a 2 z) Aw 0 t13 k z z z z) fun a k=>oE h fun Bj Ar h=>dT k 4 z z s (fun w s=>Qan (Enc.ow_rd Aa) Ar k Qhh z z z) fun a k=>dT k 5 z z s (fun w s=>Qaz (Enc.ow_rd Aa) ((hMd.step s).a 3 z) Ar 0 t13 k z z z z) fun a k=>dM [6,7] 2 z k z s fun a k=>Qam (decide (Bt ≤ Bj)) (fun Ae=>?_) (fun Ae=>?_)
   · have h:=Qaw Ae h;refine rB k 32 z Ae fun k=>dM [8,11] 2 z k z s fun a k=>oE h fun Be Au h=>dT k 9 z z s (fun w s=>Qan (Enc.ow_rd Ab) Au k Qhh z z z) fun a k=>dT k 10 z z s (fun w s=>Qaz (Enc.ow_rd Ab) ((hMd.step s).a 2 z) Au 0 t13 k z z z z) fun a k=>oE h fun Bw Ay h=>dT k 12 z z s (fun w s=>Qan (Enc.ow_rd Aa) Ay k Qhh z z z) fun a k=>dT k 13 z z s (fun w s=>Qaz (Enc.ow_rd Aa) ((hMd.step s).a 3 z) Ay 0 t13 k z z z z) fun a k=>dM [14,15,16] 3 z k z s fun a k=>Qam (decide (Be ≤ Bw)) (fun Ac=>?_) (fun Ac=>?_)
     · have h:=Qaw Ac h;refine rB k 41 z Ac fun k=>dM [17,20] 2 z k z s fun a k=>oE h fun Bc At h=>dT k 18 z z s (fun w s=>Qan (Enc.ow_rd Ab) At k Qhh z z z) fun a k=>dT k 19 z z s (fun w s=>Qaz (Enc.ow_rd Ab) ((hMd.step s).a 2 z) At 0 t13 k z z z z) fun a k=>oE h fun Bo Aq h=>dT k 21 z z s (fun w s=>Qan (Enc.ow_rd Aa) Aq k Qhh z z z) fun a k=>dT k 22 z z s (fun w s=>Qaz (Enc.ow_rd Aa) ((hMd.step s).a 3 z) Aq 0 t13 k z z z z) fun a k=>dM [23,24,25] 3 z k z s fun a k=>Qam (decide (Bc ≤ Bo)) (fun Ad=>?_) (fun Ad=>?_)
       · have h:=Qaw Ad h;refine rB k 50 z Ad fun k=>dT k 26 z z s (fun w s=>Qa6 Qt7 k z z) fun a k=>dT k 27 z z s (fun w s=>Qap t13 (r:=[]) (Ag.at ((hMd.step s).a 0 z) 4 1 z z z) k z z) fun a k=>dT k 28 z z s (fun w s=>Qa6 Quj k z z) fun a k=>dT k 29 z z s (fun w s=>Qap t13 (r:=[]) (Af.at ((hMd.step s).a 1 z) 5 1 z z z) k z z) fun a k=>dM [30,31,32] 3 z k z s fun a k=>Qal (by kernel_rfl) ?_;have k:=k.keep [4] z;refine (Qaa ?_);refine wp_ret (fS h k m z z)
       have h:=Qav Ad h;refine rB k 50 z Ad fun k=>dM [26,27,28,29,30,31,32] 7 z k z s fun a k=>Qal (by kernel_rfl) ?_;have k:=k.keep [4] z;refine (Qaa ?_);refine wp_ret (fS h k m z z)
     have h:=Qav Ac h;refine rB k 41 z Ac fun k=>dM [17,18,19,20,21,22,23,24,25,26,27,28,29,30,31,32] 16 z k z s fun a k=>Qal (by kernel_rfl) ?_;have k:=k.keep [4] z;refine (Qaa ?_);refine wp_ret (fS h k m z z)
   have h:=Qav Ae h;refine rB k 32 z Ae fun k=>dM [8,9,10,11,12,13,14,15,16,17,18,19,20,21,22,23,24,25,26,27,28,29,30,31,32] 25 z k z s fun a k=>Qal (by kernel_rfl) ?_;have k:=k.keep [4] z;refine (Qaa ?_);refine wp_ret (fS h k m z z)
 refine Qh0 [] Qhb m z fun Cb hMd=>?_;have m:=hMd;have s:=Ext.refl ([]:List Nat) Cb;refine dT k 0 z z s (fun w s=>Qa6 Quy k z z) fun a k=>dT k 1 z z s (fun w s=>Qap t13 (r:=[]) (Ag.at ((hMd.step s).a 1 z) 1 1 z z z) k z z) fun a k=>dT k 2 z z s (fun w s=>Qa6 Quu k z z) fun a k=>dT k 3 z z s (fun w s=>Qap t13 (r:=[]) (Ag.at ((hMd.step s).a 1 z) 2 1 z z z) k z z) fun a k=>dT k 4 z z s (fun w s=>Qa6 Qtw k z z) fun a k=>dT k 5 z z s (fun w s=>Qap t13 (r:=[]) (Ag.at ((hMd.step s).a 1 z) 3 1 z z z) k z z) fun a k=>?_;refine dT k 7 z z s (fun w s=>Qa6 Qtu k z z) fun a k=>dT k 8 z z s (fun w s=>Qap t13 (r:=[]) (Af.at ((hMd.step s).a 0 z) 1 1 z z z) k z z) fun a k=>dT k 9 z z s (fun w s=>Qa6 Qti k z z) fun a k=>dT k 10 z z s (fun w s=>Qap t13 (r:=[]) (Af.at ((hMd.step s).a 0 z) 2 1 z z z) k z z) fun a k=>dT k 11 z z s (fun w s=>Qa6 Qt4 k z z) fun a k=>dT k 12 z z s (fun w s=>Qap t13 (r:=[]) (Af.at ((hMd.step s).a 0 z) 3 1 z z z) k z z) fun a k=>Qh1 6 13 (by kernel_rfl) z z ?_ ?_
 · refine Qcw (cs:=[I x1.fW,I x1.fH,I x1.fD]) (ps:=[(0,.tmp 8),(1,.tmp 10),(2,.tmp 12)]) Qb8 m k z z z z z z z (by decide) z (by exact fC z (fC z (fC z fN))) fun Av Bm Cr a k m e Bg Bf=>?_;have Co:=lo1 (Nat.le_trans s.size Bf);have Bd:=Qbb Bg ([x1.fW,x1.fH,x1.fD]:List Int) z z z;have s:=s.trans e (by simp);refine wpList_nil ⟨s,?_⟩;refine dM [14] 1 z k z s fun a k=>Qai 13 (by kernel_rfl) z (Qcw (cs:=[I t2.fW,I t2.fH,I t2.fD]) (ps:=[(0,.tmp 15),(1,.tmp 17),(2,.tmp 19)]) Qb8 m k z z z z z z z (by decide) z (by exact fC z (fC z (fC z fN))) fun As Bz Ch a k m e Bb Bk=>?_);have Cu:=lo1 (Nat.le_trans s.size Bk);have Ba:=Qbb Bb ([t2.fW,t2.fH,t2.fD]:List Int) z z z;have s:=s.trans e (by simp);refine wpList_nil ⟨s,?_⟩;refine dM [15] 1 z k z s fun a k=>Qal (by kernel_rfl) ((Qaa ?_));exact ⟨([x1.fW,x1.fH,x1.fD]:List Int),(.slice (some ⟨Av,0,none⟩) 3 3),[Av],Bm,([t2.fW,t2.fH,t2.fD]:List Int),(.slice (some ⟨As,0,none⟩) 3 3),[As],Bz,k.keep [2,3,5,6] z,m.sel [3,2,1,0] z (by decide),Bd,Ba,h⟩
 refine Qcw (cs:=[I t2.fW,I t2.fH,I t2.fD]) (ps:=[(0,.tmp 15),(1,.tmp 17),(2,.tmp 19)]) Qb8 m k z z z z z z z (by decide) z (by exact fC z (fC z (fC z fN))) fun Ax Bi Cj a k m e Ca Bp=>?_;have Cp:=lo1 (Nat.le_trans s.size Bp);have Bn:=Qbb Ca ([t2.fW,t2.fH,t2.fD]:List Int) z z z;have s:=s.trans e (by simp);refine wpList_nil ⟨s,?_⟩;refine Qai 6 (by kernel_rfl) z (Qcw (cs:=[I x1.fW,I x1.fH,I x1.fD]) (ps:=[(0,.tmp 8),(1,.tmp 10),(2,.tmp 12)]) Qb8 m k z z z z z z z (by decide) z (by exact fC z (fC z (fC z fN))) fun Az Bh Cq a k m e Bu Cc=>?_);have Cf:=lo1 (Nat.le_trans s.size Cc);have Bx:=Qbb Bu ([x1.fW,x1.fH,x1.fD]:List Int) z z z;have s:=s.trans e (by simp);refine wpList_nil ⟨s,?_⟩;refine dM [14,15] 2 z k z s fun a k=>Qal (by kernel_rfl) ((Qaa ?_));exact ⟨([x1.fW,x1.fH,x1.fD]:List Int),(.slice (some ⟨Az,0,none⟩) 3 3),[Az],Bh,([t2.fW,t2.fH,t2.fD]:List Int),(.slice (some ⟨Ax,0,none⟩) 3 3),[Ax],Bi,k.keep [2,3,5,6] z,m.sel [3,2,0,1] z (by decide),Bx,Bn,h⟩
theorem Qy0 (fu:Nat) {w0:World} (x1:Item) (x2:Typ) {b3:Nat} (Aa:bx w0 b3 [I x2.fId,I x2.fW,I x2.fH,I x2.fD,I x2.fTare,I x2.fGram,I x2.fCost] 79) {r:Bool}
    (h:Qpg fu x1 x2 = some r) :
    Calls Tryz.prog 274 #[.agg (Flat.e (x1)).toArray,pt b3] w0 fun e w=>e = .returned (.bool (r)) ∧ Ext [] w0 w:=by
 refine enter (vs:=[_,_]) func274 z ntmps274 z fun a k=>?_;have m:=St.start w0;unfold Qpg at h;refine wr (Qbd (cs:=[I x1.fId,I x1.fW,I x1.fH,I x1.fD,I x1.fGram,I x1.fClass,I x1.fCount]) m k z z z z z z fun b5 w7 a k m e Ac=>pN 1 k z fun a k=>nn (wr (sv k z (Qa5 Qsx m 0 Ac 0 k z z z z z z) fun a k=>sv k z (Qcb Qst (Aa.at (m.a00 Aa.lt1) 0 7 z z z) z k z z) fun a k=>oE h fun x8 Ab h=>cE k m call151 z z z (Qx6 fu (x1:Item) (x2:Typ)  Ab) fun Ad e a k m=>pN 2 k z fun a k=>nn (wp_ret (fS h k m z z)))))
theorem Qyz (fu:Nat) {w0:World} (t1:Typ) (x2:Pallet) {b3:Nat} (Aa:bx w0 b3 [I x2.fW,I x2.fD,I x2.fH,I x2.fGram] 33) {r:Bool}
    (h:Qo2 fu t1 x2 = some r) :
    Calls Tryz.prog 276 #[.agg (Flat.e (t1)).toArray,pt b3] w0 fun e w=>e = .returned (.bool (r)) ∧ Ext [] w0 w:=by
 refine enter (vs:=[_,_]) func276 z ntmps276 z fun a k=>?_;have m:=St.start w0;unfold Qo2 at h;refine wr (Qbd (cs:=[I t1.fId,I t1.fW,I t1.fH,I t1.fD,I t1.fTare,I t1.fGram,I t1.fCost]) m k z z z z z z fun b5 w7 a k m e Ad=>pN 1 k z fun a k=>nn (wr (fl Qtu t13 m 0 Ad k z z fun a k=>sv k z (Qa6 Qvr k z z) fun a k=>sv k z (Qap t13 (r:=[]) (Aa.at (m.a00 Aa.lt1) 0 1 z z z) k z z) fun a k=>pN 2 k z fun a k=>Qam (decide (t1.fW > x2.fW)) (fun Ab=>?_) (fun Ab=>?_))))
 · have h:=Qaw Ab h;refine rB k 9 z Ab fun k=>pN 24 k z fun a k=>?_;have k:=k.keep [3] z;refine nn (wp_ret (fS h k m z z))
 have h:=Qav Ab h;refine rB k 9 z Ab fun k=>fl Qt4 t13 m 0 Ad k z z fun a k=>sv k z (Qa6 Qvn k z z) fun a k=>sv k z (Qap t13 (r:=[]) (Aa.at (m.a00 Aa.lt1) 1 1 z z z) k z z) fun a k=>pN 3 k z fun a k=>Qam (decide (t1.fD > x2.fD)) (fun Ac=>?_) (fun Ac=>?_)
 · have h:=Qaw Ac h;refine rB k 16 z Ac fun k=>pN 17 k z fun a k=>?_;have k:=k.keep [3] z;refine nn (wp_ret (fS h k m z z))
 have h:=Qav Ac h;refine rB k 16 z Ac fun k=>fl Qti t13 m 0 Ad k z z fun a k=>sv k z (Qa6 Qvk k z z) fun a k=>sv k z (Qap t13 (r:=[]) (Aa.at (m.a00 Aa.lt1) 2 1 z z z) k z z) fun a k=>pN 3 k z fun a k=>Qam (decide (t1.fH > x2.fH)) (fun Ae=>?_) (fun Ae=>?_)
 · have h:=Qaw Ae h;refine rB k 23 z Ae fun k=>pN 10 k z fun a k=>?_;have k:=k.keep [3] z;refine nn (wp_ret (fS h k m z z))
 have h:=Qav Ae h;refine rB k 23 z Ae fun k=>fl Qz5 t13 m 0 Ad k z z fun a k=>fl Quj t13 m 0 Ad k z z fun a k=>pN 1 k z fun a k=>sv k z (Qa6 Qs1 k z z) fun a k=>sv k z (Qap t13 (r:=[]) (Aa.at (m.a00 Aa.lt1) 3 1 z z z) k z z) fun a k=>pN 3 k z fun a k=>?_;have k:=k.keep [3] z;refine nn (wp_ret (fS h k m z z))
theorem Q2a (fu:Nat) {w0:World} (r1:Request) {Af:List Value} {F3:List Nat} (Ah:rd w0 F3 Af r1) {r:Int}
    (h:Qr2 fu r1 = some r) :
    Calls Tryz.prog 220 #[.agg Af.toArray] w0 fun e w=>e = .returned (I r) ∧ Ext [] w0 w:=by
 refine enter (vs:=[_]) func220 z ntmps220 z fun a k=>?_;have m:=St.start w0;obtain ⟨v5,F6,v7,F8,v9,Br,rfl,rfl,Aa,Ad,Ab⟩:=Ah;unfold Qr2 at h;refine wr (Qbd (cs:=[I r1.fWay,I r1.fPallet.fW,I r1.fPallet.fD,I r1.fPallet.fH,I r1.fPallet.fGram,I r1.fClasses,v5,v7,I r1.fMaster,v9]) m k z z z z z z fun Bh Bp a k m e Ac=>pN 1 k z fun a k=>nn (wr (sv k z (Qa5 Qeg m 0 Ac 0 k z z z z z z) fun a k=>oE h fun Ae Aj h=>cE k m call250 z z z (Qty fu _ (Qah (m.r Aa) (m.r Ad) (m.r Ab)) Aj) fun Bq e a k m=>?_)));refine pN 3 k z fun a k=>Qa2 (cs:=[I 0,I 0,I 0,I 0,I 0,I 0,I 0]) m k zeroValue79 z z z z z fun As Bf a k m e Aw=>Qa3 (cs':=[I Ae.1.fId,I Ae.1.fW,I Ae.1.fH,I Ae.1.fD,I Ae.1.fTare,I Ae.1.fGram,I Ae.1.fCost]) sizeOf79 m 0 Aw 0 k z z z z z z z z z z z fun Bd a k e m At=>pN 1 k z fun a k=>nn (wr (sv k z (Qa6 Qrw k z z) fun a k=>sv k z (Qa5 Q1a m 1 Ac 1 k z z z z z z) fun a k=>Qa2 (cs:=[I 0,I 0,I 0,I 0]) m k zeroValue33 z z z z z fun Ag Bb a k m e Aq=>?_))
 refine Qa3 (cs':=[I r1.fPallet.fW,I r1.fPallet.fD,I r1.fPallet.fH,I r1.fPallet.fGram]) sizeOf33 m 0 Aq 0 k z z z z z z z z z z z fun Bi a k e m Ai=>nn (wp_seq (wp_block (wr (sv k z (Qa5 Qeg m 2 Ac 0 k z z z z z z) fun a k=>oE h fun Bt Ap h=>cE k m call271 z z z (Qyl fu _ (Qah (m.r Aa) (m.r Ad) (m.r Ab)) Ap) fun Bw e a k m=>pN 2 k z fun a k=>nn ?_))));refine cI h k z (fun Ao h=>?_) fun Ao h=>?_
 · refine wr (pN 1 k z fun a k=>nn (wp_ret (Qaf (Qac ?_))));refine fS h k m z z
 refine wr (sv k z (Qa5 Qeg m 2 Ac 0 k z z z z z z) fun a k=>oE h fun Bo Az h=>cE k m call272 z z z (Qzf fu _ (Qah (m.r Aa) (m.r Ad) (m.r Ab)) Az) fun Bv e a k m=>pN 2 k z fun a k=>nn (cI h k z (fun Ax h=>?_) fun Ax h=>?_))
 · refine wr (pN 1 k z fun a k=>nn (wp_ret (Qaf (Qac ?_))));refine fS h k m z z
 refine wr (fl Qnp Qz0 m 2 Ac k z z fun a k=>fl Qs3 t13 m 2 Ac k z z fun a k=>oE h fun Bl Ba h=>cE k m call273 z z z (Qza fu _ _ (m.r Aa) Ba) fun Be e a k m=>pN 2 k z fun a k=>?_);have k:=k.keep [1,3,5,21] z;refine nn (cI h k z (fun Ar h=>?_) fun Ar h=>?_)
 · refine wr (pN 1 k z fun a k=>nn (wp_ret (Qaf (Qac ?_))));refine fS h k m z z
 refine wr (fl Qgt Quw m 2 Ac k z z fun a k=>pN 1 k z fun a k=>oE h fun Bj Al h=>cE k m call148 z z z (Qck fu _ _ (m.r Ab) ⟨274,[pt As],z,call274,fun w Bm Bn r e Av hx=>by subst Av; have m:=m.step e; exact Qy0 fu _ _ (At.agr (m.a 1 rfl) (by simp)) hx⟩ Al) fun Bu e a k m=>pN 1 k rfl fun a k=>nn (cI h k rfl (fun Ak h=>?_) fun Ak h=>?_))
 · refine wr (pN 1 k z fun a k=>nn (wp_ret (Qaf (Qac ?_))));refine fS h k m z z
 refine wr (fl Qec Qt0 m 2 Ac k z z fun a k=>pN 1 k z fun a k=>oE h fun Bk Am h=>cE k m call275 z z z (Qdl fu _ _ (m.r Ad) ⟨276,[pt Ag],z,call276,fun w Bs Bg r e Ay hx=>by subst Ay; have m:=m.step e; exact Qyz fu _ _ (Ai.agr (m.a 0 rfl) (by simp)) hx⟩ Am) fun Bc e a k m=>pN 1 k rfl fun a k=>nn (cI h k rfl (fun Au h=>?_) fun Au h=>?_))
 · refine wr (pN 1 k z fun a k=>nn (wp_ret (Qaf (Qac ?_))));refine fS h k m z z
 refine wp_skip (Qae (Qaa ?_));refine wr (pN 1 k z fun a k=>nn (wp_ret (fS h k m z z)))
theorem Qn0 (fu:Nat) {w0:World} (r1:Request) {Ac:List Value} {F3:List Nat} (Ag:rd w0 F3 Ac r1) {r:Bool}
    (h:Qgr fu r1 = some r) :
    Calls Tryz.prog 115 #[.agg Ac.toArray] w0 fun e w=>e = .returned (.bool (r)) ∧ Ext [] w0 w:=by
 refine enter (vs:=[_]) func115 z ntmps115 z fun a k=>?_;have m:=St.start w0;obtain ⟨v5,F6,v7,F8,v9,Al,rfl,rfl,Aa,Ad,Ab⟩:=Ag;unfold Qgr at h;refine wr (Qbd (cs:=[I r1.fWay,I r1.fPallet.fW,I r1.fPallet.fD,I r1.fPallet.fH,I r1.fPallet.fGram,I r1.fClasses,v5,v7,I r1.fMaster,v9]) m k z z z z z z fun Ai Ak a k m e Af=>pN 1 k z fun a k=>nn (wr (sv k z (Qa5 Qeg m 0 Af 0 k z z z z z z) fun a k=>oE h fun Aj Ae h=>cE k m call220 z z z (Q2a fu _ (Qah (m.r Aa) (m.r Ad) (m.r Ab)) Ae) fun Ah e a k m=>?_)));refine pN 2 k z fun a k=>nn (wp_ret (fS h k m z z))
theorem Qv6 (fu:Nat) {w0:World} (Ac:List Int) {v2:Value} {F3:List Nat} (Aa:rd w0 F3 [v2] Ac) {r:Bool}
    (h:Qj2 fu Ac = some r) :
    Calls Tryz.prog 221 #[v2] w0 fun e w=>e = .returned (.bool (r)) ∧ Ext [] w0 w:=by
 refine enter (vs:=[_]) func221 z ntmps221 z fun a k=>?_;have m:=St.start w0;unfold Qj2 at h;refine wr (pN 1 k z fun a k=>nn (wp_seq (wr (pN 1 k z fun a k=>sv k z (Qa4 (α:=Int) Aa k underlying63 z z) fun a k=>pN 1 k z fun a k=>nn (wp_block (Qat (fun n a w=>∃ (Ab:Int),K 32 [(0,v2),(5,v2),(6,I ((Ac.length:Int))),(7,I Ab)] a ∧ St [] w0 w [] ∧ Qdk fu Ac n Ab = some r) ?_ ?_ fu _ _ ?_))))))
 · rintro a w ⟨_,_,_,h⟩;exact nS h
 · rintro Aj a Ar ⟨Ab,k,m,h⟩;rw [Qdk.eq_2] at h;unfold Qht at h;refine wr (pN 1 k z fun a k=>nn (wp_seq (cI h k z (fun Ah h=>?_) fun Ah h=>?_)))
   · refine wp_skip (Qaa ?_);refine Qci (fun a w=>K 32 [(0,v2),(5,v2),(6,I ((Ac.length:Int))),(7,I Ab)] a ∧ St [] w0 w [] ∧ Qgy fu (Qdk fu Ac Aj) Ab = some r) ?_ ?_
     · rintro a Ap ⟨k,m,h⟩;unfold Qgy at h;refine wp_region_lit (pN 2 k z fun a k=>nn ?_);exact ⟨w64 (Ab + 1),k.keep [0,5,6,7] z,m.sel [] z (by decide),h⟩
     refine wp_block (wr (pN 1 k z fun a k=>oE h fun Am Ag h=>sv k z (Qan Aa Ag k Qhh z z z) fun a k=>sv k z (Qaz Aa (m.a00 (Enc.rd_lt Aa)) Ag 0 t13 k z z z z) fun a k=>pN 2 k z fun a k=>nn (wr (pN 1 k z fun a k=>oE h fun Ak Al h=>cE k m call139 z z z (Qcr fu _ _ _  Al) fun Aq e a k m=>pN 2 k z fun a k=>Qam (!Ak) (fun Ae=>?_) (fun Ae=>?_)))))
     · have h:=Qaw Ae h;refine rB k 15 z Ae fun k=>pN 12 k z fun a k=>nn (wp_cond_true (k.ev z) (wr (pN 1 k z fun a k=>nn (wp_ret (Qaf (Qac (Qac (Qaf (Qac ?_)))))))));refine fS h k m z z
     have h:=Qav Ae h;refine rB k 15 z Ae fun k=>pN 3 k z fun a k=>Qam (decide (Ab > 0)) (fun Ad=>?_) (fun Ad=>?_)
     · have h:=Qaw Ad h;refine rB k 18 z Ad fun k=>pN 3 k z fun a k=>oE h fun Ao Af h=>sv k z (Qan Aa Af k Qhh z z z) fun a k=>sv k z (Qaz Aa (m.a00 (Enc.rd_lt Aa)) Af 0 t13 k z z z z) fun a k=>pN 4 k z fun a k=>nn (cI h k z (fun Ai h=>?_) fun Ai h=>?_)
       · refine wr (pN 1 k z fun a k=>nn (wp_ret (Qaf (Qac (Qac (Qaf (Qac ?_)))))));refine fS h k m z z
       refine wp_skip (Qae (Qaa ?_));exact ⟨k.keep [0,5,6,7] z,m.sel [] z (by decide),h⟩
     have h:=Qav Ad h;refine rB k 18 z Ad fun k=>pN 9 k z fun a k=>nn (wp_cond_false (k.ev z) (wp_skip (Qae (Qaa ?_))));exact ⟨k.keep [0,5,6,7] z,m.sel [] z (by decide),h⟩
   refine wp_exit (Qag (Qag (Qao (Qaa ?_))));refine wr (pN 1 k z fun a k=>sv k z (Qa4 (α:=Int) Aa k underlying63 z z) fun a k=>pN 2 k z fun a k=>nn (wp_ret (fS h k m z z)))
 exact ⟨0,k.keep [0,5,6,7] z,m.sel [] z (by decide),h⟩
theorem Qdi (fu:Nat) {w0:World} (n1:Int)  {r:Bool}
    (h:Qb9 fu n1 = some r) :
    Calls Tryz.prog 153 #[I n1] w0 fun e w=>e = .returned (.bool (r)) ∧ Ext [] w0 w:=by
 refine enter (vs:=[_]) func153 z ntmps153 z fun a k=>?_;have m:=St.start w0;unfold Qb9 at h;refine wr (pN 1 k z fun a k=>nn (wr (pN 1 k z fun a k=>oE h fun x2 Aa h=>cE k m call139 z z z (Qcr fu _ _ _  Aa) fun w5 e a k m=>pN 1 k z fun a k=>nn (wp_ret (fS h k m z z)))))
theorem Q1g (fu:Nat) {w0:World} (x1:Plan) {Av:List Value} {F3:List Nat} (Be:rd w0 F3 Av x1) {r:Bool}
    (h:Qqv fu x1 = some r) :
    Calls Tryz.prog 116 #[.agg Av.toArray] w0 fun e w=>e = .returned (.bool (r)) ∧ Ext [] w0 w:=by
 refine enter (vs:=[_]) func116 z ntmps116 z fun a k=>?_;have m:=St.start w0;obtain ⟨v5,F6,v7,F8,rfl,rfl,Aa,Am⟩:=Be;unfold Qqv at h;refine wr (Qbd (cs:=[v5,v7]) m k z z z z z z fun Ac Ar a k m e Af=>pN 1 k z fun a k=>nn (Qci (fun a w=>K 73 [(1,pt Ac)] a ∧ St [] w0 w [([Ac],Ar)] ∧ Qpr fu x1 = some r) ?_ ?_))
 · rintro a Cg ⟨k,m,h⟩;unfold Qpr at h;refine wp_seq (wr (fl Qce Qpl m 0 Af k z z fun a k=>sv k z (Qa4 (α:=Carton) Aa k underlying55 z z) fun a k=>pN 1 k z fun a k=>nn (wp_block (Qat (fun n a w=>∃ (Ab:Int),K 73 [(1,pt Ac),(20,v5),(21,I ((x1.fCartons.length:Int))),(22,I Ab)] a ∧ St [] w0 w [([Ac],Ar)] ∧ Qf1 fu x1 n Ab = some r) ?_ ?_ fu _ _ ?_))))
   · rintro a w ⟨_,_,_,h⟩;exact nS h
   · rintro Bl a By ⟨Ab,k,m,h⟩;rw [Qf1.eq_2] at h;unfold Qnd at h;refine wr (pN 1 k z fun a k=>nn (wp_seq (cI h k z (fun Bh h=>?_) fun Bh h=>?_)))
     · refine wp_skip (Qaa ?_);refine Qci (fun a w=>K 73 [(1,pt Ac),(20,v5),(21,I ((x1.fCartons.length:Int))),(22,I Ab)] a ∧ St [] w0 w [([Ac],Ar)] ∧ Qpp fu (Qf1 fu x1 Bl) Ab = some r) ?_ ?_
       · rintro a Cj ⟨k,m,h⟩;unfold Qpp at h;refine wp_region_lit (pN 2 k z fun a k=>nn ?_);exact ⟨w64 (Ab + 1),k.keep [1,20,21,22] z,m.sel [0] z (by decide),h⟩
       refine wp_block (wr (pN 1 k z fun a k=>oE h fun Au As h=>sv k z (Qan Aa As k Qsw z z z) fun a k=>?_));obtain ⟨Cf,Bx,Cc,Aw,Bc,Az⟩:=Qbt Aa (Qas As).2.2;obtain ⟨Bf,_,rfl,rfl,Aq⟩:=Aw;refine sv k z (Qcb Qxd (Bc.agr (m.a00 (Enc.rd_lt Aa)) Az) z k z z) fun a k=>Qa2 (cs:=[I 0,I 0,.slice none 0 0]) m k zeroValue83 z z z z z fun Bu Ci a k m e Bi=>pN 1 k z fun a k=>Qa3 (cs':=[I Au.fType,I Au.fGroup,Bf]) sizeOf83 m 0 Bi 0 k z z z z z z z z z z (Qbp z (Qbp z (Qbp (Qfj Aq) Qsl))) fun Cd a k e m Ap=>nn (wr (fl Qf2 Qu5 m 1 Af k z z fun a k=>pN 1 k z fun a k=>oE h fun Al At h=>sv k z (Qan Am At k Qxp z z z) fun a k=>sv k z (Qh2 Am (m.a00 (Enc.rd_lt Am)) At Qz7 k z z) fun a k=>?_));refine Qa2 (cs:=[I 0,I 0,I 0,I 0]) m k zeroValue89 z z z z z fun Cl Ch a k m e Bm=>Qa3 (cs':=[I Al.fPallet,I Al.fX,I Al.fY,I Al.fZ]) sizeOf89 m 0 Bm 0 k z z z z z z z z z z z fun Ca a k e m Ao=>nn (wr (fl Qs4 t13 m 1 Ap k z z fun a k=>oE h fun Ax Bd h=>cE k m call139 z z z (Qcr fu _ _ _  Bd) fun Ce e a k m=>pN 2 k z fun a k=>Qam (!Ax) (fun Ah=>?_) (fun Ah=>?_)))
       · have h:=Qaw Ah h;refine rB k 36 z Ah fun k=>pN 35 k z fun a k=>?_;have k:=k.keep [1,20,21,22,71] z;refine nn (wp_cond_true (k.ev z) (wr (pN 1 k z fun a k=>nn (wp_ret (Qaf (Qac (Qac (Qaf (Qac ?_)))))))));refine fS h k m z z
       have h:=Qav Ah h;refine rB k 36 z Ah fun k=>fl Qth t13 m 1 Ap k z z fun a k=>oE h fun Bo Bq h=>cE k m call139 z z z (Qcr fu _ _ _  Bq) fun Bw e a k m=>pN 3 k z fun a k=>Qam (!Bo) (fun Ad=>?_) (fun Ad=>?_)
       · have h:=Qaw Ad h;refine rB k 42 z Ad fun k=>pN 29 k z fun a k=>?_;have k:=k.keep [1,20,21,22,71] z;refine nn (wp_cond_true (k.ev z) (wr (pN 1 k z fun a k=>nn (wp_ret (Qaf (Qac (Qac (Qaf (Qac ?_)))))))));refine fS h k m z z
       have h:=Qav Ad h;refine rB k 42 z Ad fun k=>fl Qkf Qrs m 1 Ap k z z fun a k=>oE h fun Bp Bk h=>cE k m call221 z z z (Qv6 fu _ (m.r Aq) Bk) fun Cb e a k m=>pN 3 k z fun a k=>Qam (!Bp) (fun Aj=>?_) (fun Aj=>?_)
       · have h:=Qaw Aj h;refine rB k 48 z Aj fun k=>pN 23 k z fun a k=>?_;have k:=k.keep [1,20,21,22,71] z;refine nn (wp_cond_true (k.ev z) (wr (pN 1 k z fun a k=>nn (wp_ret (Qaf (Qac (Qac (Qaf (Qac ?_)))))))));refine fS h k m z z
       have h:=Qav Aj h;refine rB k 48 z Aj fun k=>fl Qsj t13 m 0 Ao k z z fun a k=>oE h fun Ba Ay h=>cE k m call153 z z z (Qdi fu _  Ay) fun Ck e a k m=>pN 3 k z fun a k=>Qam (!Ba) (fun Ak=>?_) (fun Ak=>?_)
       · have h:=Qaw Ak h;refine rB k 54 z Ak fun k=>pN 17 k z fun a k=>?_;have k:=k.keep [1,20,21,22,71] z;refine nn (wp_cond_true (k.ev z) (wr (pN 1 k z fun a k=>nn (wp_ret (Qaf (Qac (Qac (Qaf (Qac ?_)))))))));refine fS h k m z z
       have h:=Qav Ak h;refine rB k 54 z Ak fun k=>fl Qs0 t13 m 0 Ao k z z fun a k=>oE h fun Bj Bb h=>cE k m call153 z z z (Qdi fu _  Bb) fun Cn e a k m=>pN 3 k z fun a k=>Qam (!Bj) (fun Ag=>?_) (fun Ag=>?_)
       · have h:=Qaw Ag h;refine rB k 60 z Ag fun k=>pN 11 k z fun a k=>?_;have k:=k.keep [1,20,21,22,71] z;refine nn (wp_cond_true (k.ev z) (wr (pN 1 k z fun a k=>nn (wp_ret (Qaf (Qac (Qac (Qaf (Qac ?_)))))))));refine fS h k m z z
       have h:=Qav Ag h;refine rB k 60 z Ag fun k=>fl Qtv t13 m 0 Ao k z z fun a k=>oE h fun Bg Bt h=>cE k m call153 z z z (Qdi fu _  Bt) fun Bz e a k m=>pN 3 k z fun a k=>Qam (!Bg) (fun Ai=>?_) (fun Ai=>?_)
       · have h:=Qaw Ai h;refine rB k 66 z Ai fun k=>pN 5 k z fun a k=>?_;have k:=k.keep [1,20,21,22,71] z;refine nn (wp_cond_true (k.ev z) (wr (pN 1 k z fun a k=>nn (wp_ret (Qaf (Qac (Qac (Qaf (Qac ?_)))))))));refine fS h k m z z
       have h:=Qav Ai h;refine rB k 66 z Ai fun k=>fl Qtg t13 m 0 Ao k z z fun a k=>oE h fun Cm Br h=>cE k m call153 z z z (Qdi fu _  Br) fun Bv e a k m=>pN 2 k z fun a k=>?_;have k:=k.keep [1,20,21,22,71] z;refine nn (cI h k z (fun Bs h=>?_) fun Bs h=>?_)
       · refine wr (pN 1 k z fun a k=>nn (wp_ret (Qaf (Qac (Qac (Qaf (Qac ?_)))))));refine fS h k m z z
       refine wp_skip (Qae (Qaa ?_));exact ⟨k.keep [1,20,21,22] z,m.sel [2] z (by decide),h⟩
     refine wp_exit (Qag (Qag (Qao (Qaa ?_))));refine wr (pN 1 k z fun a k=>nn (wp_ret (fS h k m z z)))
   exact ⟨0,k.keep [1,20,21,22] z,m.sel [0] z (by decide),h⟩
 refine wr (fl Qf2 Qu5 m 0 Af k z z fun a k=>sv k z (Qa4 (α:=Spot) Am k underlying56 z z) fun a k=>fl Qce Qpl m 0 Af k z z fun a k=>sv k z (Qa4 (α:=Carton) Aa k underlying55 z z) fun a k=>pN 2 k z fun a k=>Qam (((x1.fSpots.length:Int)) != ((x1.fCartons.length:Int))) (fun Ae=>?_) (fun Ae=>?_))
 · have h:=Qaw Ae h;refine rB k 13 z Ae fun k=>pN 5 k z fun a k=>nn (wp_cond_true (k.ev z) (wr (pN 1 k z fun a k=>nn (wp_ret (Qac ?_)))));refine fS h k m z z
 have h:=Qav Ae h;refine rB k 13 z Ae fun k=>fl Qce Qpl m 0 Af k z z fun a k=>sv k z (Qa4 (α:=Carton) Aa k underlying55 z z) fun a k=>pN 2 k z fun a k=>nn (cI h k z (fun Bn h=>?_) fun Bn h=>?_)
 · refine wr (pN 1 k z fun a k=>nn (wp_ret (Qac ?_)));refine fS h k m z z
 refine wp_skip (Qaa ?_);exact ⟨k.keep [1] z,m.sel [0] z (by decide),h⟩
theorem Qmd (fu:Nat) {w0:World} (Aa:List Carton) (f5:Carton → Option Bool) {v2:Value} {F3:List Nat} (Ab:rd w0 F3 [v2] Aa) {v6:Value} (Ag:Qxh Tryz.prog w0 v6 f5) {r:Int}
    (h:Qbr fu Aa f5 = some r) :
    Calls Tryz.prog 222 #[v2,v6] w0 fun e w=>e = .returned (I r) ∧ Ext [] w0 w:=by
 refine enter (vs:=[_,_]) func222 z ntmps222 z fun a k=>?_;have m:=St.start w0;obtain ⟨Ak,Ar,rfl,Ao,Aj⟩:=Ag;unfold Qbr at h;refine wr (pN 1 k z fun a k=>nn (wp_seq (wr (pN 1 k z fun a k=>sv k z (Qa4 (α:=Carton) Ab k underlying55 z z) fun a k=>pN 1 k z fun a k=>nn (wp_block (Qat (fun n a w=>∃ (Ac:Int),K 19 [(0,v2),(1,(.func (.func Ak) #[] Ar.toArray)),(7,I ((Aa.length:Int))),(8,I Ac)] a ∧ St [] w0 w [] ∧ Qa1 fu Aa f5 n Ac = some r) ?_ ?_ fu _ _ ?_))))))
 · rintro a w ⟨_,_,_,h⟩;exact nS h
 · rintro Au a Av ⟨Ac,k,m,h⟩;rw [Qa1.eq_2] at h;unfold Qbx at h;refine wr (pN 1 k z fun a k=>nn (wp_seq (cI h k z (fun Ah h=>?_) fun Ah h=>?_)))
   · refine wp_skip (Qaa ?_);refine wp_seq (wp_block (wr (pN 2 k z fun a k=>nn (wr (pN 3 k z fun a k=>oE h fun Ad Af h=>sv k z (Qan Ab Af k Qsw z z z) fun a k=>?_)))));obtain ⟨Ax,Aw,Az,Al,Aq,Ai⟩:=Qbt Ab (Qas Af).2.2;obtain ⟨As,_,rfl,rfl,Ae⟩:=Al;refine sv k z (Qcb Qxd (Aq.agr (m.a00 (Enc.rd_lt Ab)) Ai) z k z z) fun a k=>oE h fun Ba Ap h=>Qu2 k Ao z z z z z z (Aj _ _ _ _ m.ext ⟨_,_,z,(Qhx (m.r Ae))⟩ Ap) fun At Ay hR=>?_;obtain ⟨rfl,e⟩:=hR;refine ⟨_,z,fun a k=>?_⟩;have m:=m.step e;refine nn (cI h k z (fun Am h=>?_) fun Am h=>?_)
     · refine wr (pN 2 k z fun a k=>nn (wp_ret (Qaf (Qac (Qac (Qaf (Qac ?_)))))));refine fS h k m z z
     refine wp_skip (Qae (Qaa ?_));refine wp_region_lit (pN 2 k z fun a k=>nn ?_);exact ⟨w64 (Ac + 1),k.keep [0,1,7,8] z,m.sel [] z (by decide),h⟩
   refine wp_exit (Qag (Qag (Qao (Qaa ?_))));refine wr (pN 1 k z fun a k=>nn (wp_ret (fS h k m z z)))
 exact ⟨0,k.keep [0,1,7,8] z,m.sel [] z (by decide),h⟩
theorem Qjv (fu:Nat) {w0:World} (Aa:List Carton) (f5:Carton → Option Bool) {v2:Value} {F3:List Nat} (Ab:rd w0 F3 [v2] Aa) {v6:Value} (Ae:Qxh Tryz.prog w0 v6 f5) {r:Bool}
    (h:Qbi fu Aa f5 = some r) :
    Calls Tryz.prog 117 #[v2,v6] w0 fun e w=>e = .returned (.bool (r)) ∧ Ext [] w0 w:=by
 refine enter (vs:=[_,_]) func117 z ntmps117 z fun a k=>?_;have m:=St.start w0;obtain ⟨Ak,Ai,rfl,Ah,Ad⟩:=Ae;unfold Qbi at h;refine wr (pN 1 k z fun a k=>nn (wr (pN 2 k z fun a k=>oE h fun Al Ag h=>cE k m call222 z z z (Qmd fu _ _ (m.r Ab) ⟨_,_,z,Ah,fun w Af Ac r e=>Ad w Af Ac r (m.ext.trans e (by simp))⟩ Ag) fun Aj e a k m=>pN 2 k z fun a k=>nn (wp_ret (fS h k m z z)))))
theorem Qy2 (fu:Nat) {w0:World} (c1:Carton) {Aa:List Value} {F3:List Nat} (Ad:rd w0 F3 Aa c1) {r:Bool}
    (h:Qrp fu c1 = some r) :
    Calls Tryz.prog 118 #[.agg Aa.toArray] w0 fun e w=>e = .returned (.bool (r)) ∧ Ext [] w0 w:=by
 refine enter (vs:=[_]) func118 z ntmps118 z fun a k=>?_;have m:=St.start w0;obtain ⟨v5,_,rfl,rfl,Ac⟩:=Ad;unfold Qrp at h;refine wr (Qbd (cs:=[I c1.fType,I c1.fGroup,v5]) m k z z z z z z fun b7 w9 a k m e Ab=>pN 1 k z fun a k=>nn (wr (fl Qkf Qrs m 0 Ab k z z fun a k=>sv k z (Qa4 (α:=Int) Ac k underlying63 z z) fun a k=>pN 2 k z fun a k=>nn (wp_ret (fS h k m z z)))))
theorem Qts (fu:Nat) {w0:World} (x1:Plan) {Ak:List Value} {F3:List Nat} (Av:rd w0 F3 Ak x1) {r:(List Int)}
    (h:Qjt fu x1 = some r) :
    Calls Tryz.prog 119 #[.agg Ak.toArray] w0 fun e w=>∃ (v0:Value) (G0:List Nat),e = .returned (v0) ∧ Ext [] w0 w ∧ ow w G0 [v0] r ∧ (∀ b ∈ G0,w0.heap.size ≤ b):=by
 refine enter (vs:=[_]) func119 z ntmps119 z fun a k=>?_;have m:=St.start w0;obtain ⟨v5,F6,v7,F8,rfl,rfl,Ab,Bf⟩:=Av;unfold Qjt at h;refine wr (Qbd (cs:=[v5,v7]) m k z z z z z z fun Bo Bm a k m e As=>pN 1 k z fun a k=>nn (wr (Qhw (cs:=[]) (ps:=[]) Qb8 m k z z z z z z z (by decide) z (by exact fN) fun Al Bb Bq a k m e Bd=>?_)));have Aw:=Qbb Bd ([]:List Int) z z z;refine pN 1 k z fun a k=>nn (wp_seq (wr (fl Qce Qpl m 1 As k z z fun a k=>sv k z (Qa4 (α:=Carton) Ab k underlying55 z z) fun a k=>pN 1 k z fun a k=>nn (wp_block (Qat (fun n a w=>∃ (Af:List Int) (Ad:Value) (Aa:List Nat) (Ae:World) (Ac:Int),K 20 [(3,Ad),(8,v5),(9,I ((x1.fCartons.length:Int))),(10,I Ac)] a ∧ St [] w0 w [(Aa,Ae)] ∧ ow Ae Aa [Ad] Af ∧ Qfi fu x1 n Af Ac = some r) ?_ ?_ fu _ _ ?_)))))
 · rintro a w ⟨_,_,_,_,_,_,_,_,h⟩;exact nS h
 · rintro Bg a Bh ⟨Af,Ad,Aa,Ae,Ac,k,m,Aj,h⟩;rw [Qfi.eq_2] at h;unfold Qjj at h;refine wr (pN 1 k z fun a k=>nn (wp_seq (cI h k z (fun Aq h=>?_) fun Aq h=>?_)))
   · refine wp_skip (Qaa ?_);refine wp_seq (wp_block (wr (oE h fun Ai Ah h=>sv k z (Qan Ab Ah k Qsw z z z) fun a k=>?_)));obtain ⟨Bj,Bn,Bi,Bc,Ba,Au⟩:=Qbt Ab (Qas Ah).2.2;obtain ⟨Ap,_,rfl,rfl,Ag⟩:=Bc;refine sv k z (Qcb Qxd (Ba.agr (m.a00 (Enc.rd_lt Ab)) Au) z k z z) fun a k=>Qa2 (cs:=[I 0,I 0,.slice none 0 0]) m k zeroValue83 z z z z z fun Bk Bp a k m e Am=>Qa3 (cs':=[I Ai.fType,I Ai.fGroup,Ap]) sizeOf83 m 0 Am 0 k z z z z z z z z z z (Qbp z (Qbp z (Qbp (Qfj Ag) Qsl))) fun Bl a k e m Ay=>nn (wp_region_lit (pN 1 k z fun a k=>fl Qkf Qrs m 0 Ay k z z fun a k=>oE h fun Az Ao h=>Qf9 Ao Qb8 z m 1 Aj (News.rd (m.r Ag)) z z k z z z z z z z fun Ar At Be a k e m Ax=>pN 1 k z fun a k=>wpList_nil (Qae (Qaa ?_))));refine wp_region_lit (pN 2 k z fun a k=>nn ?_);exact ⟨Az,Ar,At,Be,w64 (Ac + 1),k.keep [3,8,9,10] z,m.sel [1] z (by decide),Ax,h⟩
   refine wp_exit (Qag (Qag (Qao (Qaa ?_))));refine wr (pN 2 k z fun a k=>nn (wp_ret ?_));cases h;exact Qc0 k z (RV.tmp k z) ⟨_,Aa,z,m.ext,(m.v Aj 0 z),(m.fresh 0 z)⟩
 exact ⟨([]:List Int),(.slice (some ⟨Al,0,none⟩) 0 0),[Al],Bb,0,k.keep [3,8,9,10] z,m.sel [0] z (by decide),Aw,h⟩

end Go.Proofs.YtkkfmjpbiimkbaaGreat
