/- FnTampered: the walk.. -/
import Derived.Test.YtpcmapfabndggaaGreatTamperedBT
set_option maxRecDepth 20000
set_option linter.unusedSimpArgs false
set_option linter.unusedVariables false
set_option linter.unnecessarySimpa false
namespace Go.Proofs.YtpcmapfabndggaaGreat
open Go Go.RowKit
open Enc (rd ow)
open Arg (argv)
open Ret (retv)
open Go.Proofs.Tryz
theorem Qxs (fu:Nat) {w0:World} (t1:Typ) (x2:Int) {b3:Nat} (Aa:bx w0 b3 [I x2] 3) {r:Bool}
    (h:Qpd fu t1 x2=some r) :
    Calls Tryz.prog 163 #[.agg (Flat.e (t1)).toArray,pt b3] w0 λe w=>e=.returned (.bool (r))∧Ext [] w0 w:=by
 refine en (vs:=[_,_]) func163 z ntmps163 z λa k m=>?_;unfold Qpd at h;refine wr (Qbk (cs:=[I t1.qQ,I t1.fW,I t1.fH,I t1.fD,I t1.ft,I t1.fQ,I t1.fK]) m k z z z z z z λb5 w7 a k m e Ab=>pN 1 k z λa k=>nn (wr (fl Qsr t13 m 0 Ab k z z λa k=>sv k z (Qan t13 (r:=[]) (Aa.at (m.a00 Aa.lt1) 0 1 z z z) k z z) λa k=>pN 2 k z λa k=>nn (wp_ret (fS h k m z z)))))
theorem Qhq (fu:Nat) {w0:World} (Ab:List Typ) (f5:Typ→Option Bool) {v2:Value} {F3:List Nat} (Ac:rd w0 F3 [v2] Ab) {v6:Value} (Ak:Qut Tryz.prog w0 v6 f5) {r:Int}
    (h:Qbm fu Ab f5=some r) :
    Calls Tryz.prog 108 #[v2,v6] w0 λe w=>e=.returned (I r)∧Ext [] w0 w:=by
 refine en (vs:=[_,_]) func108 z ntmps108 z λa k m=>?_;obtain ⟨Ai,Ah,rfl,Ag,Af⟩:=Ak;unfold Qbm at h;refine wr (pN 1 k z λa k=>nn (wp_seq (wr (pN 1 k z λa k=>sv k z (Qa5 (α:=Typ) Ac k underlying27 z z) λa k=>pN 1 k z λa k=>nn (wp_block (Qar (λn a w=>∃ (Aa:Int),K 19 [(0,v2),(1,(.func (.func Ai) #[] Ah.toArray)),(7,I (Ab.length:Int)),(8,I Aa)] a∧St [] w0 w []∧Qba fu Ab f5 n Aa=some r) ?_ ?_ fu _ _ ?_))))))
 · rintro a w ⟨_,_,_,h⟩;exact nS h
 · rintro Am a Ar ⟨Aa,k,m,h⟩;rw [Qba.eq_2] at h;unfold Qci at h;refine wr (pN 1 k z λa k=>nn (wp_seq (cI h k z (λAj h=>?_) λAj h=>?_)))
   · refine wp_skip (Qaa ?_);refine wp_seq (wp_block (wr (pN 2 k z λa k=>nn (wr (pN 3 k z λa k=>oE h λAo Ad h=>sv k z (Qak Ac Ad k Q3v z z z) λa k=>sv k z (Qjg Ac (m.a00 (Enc.rd_lt Ac)) Ad Qto k z z) λa k=>oE h λAs Al h=>Qs3 k Ag z z z z z z (Af _ _ _ _ m.ext z Al) λAp Aq hR=>?_)))));obtain ⟨rfl,e⟩:=hR;refine ⟨_,z,λa k=>?_⟩;have m:=m.step e;refine nn (cI h k z (λAe h=>?_) λAe h=>?_)
     · refine wr (pN 2 k z λa k=>nn (wp_ret (Qah (Qad (Qad (Qah (Qad ?_)))))));refine fS h k m z z
     refine wp_skip (Qae (Qaa ?_));refine wp_region_lit (pN 2 k z λa k=>nn ?_);exact ⟨w64 (Aa+1),k.keep [0,1,7,8] z,m.sl [] z,h⟩
   refine wp_exit (Qaf (Qaf (Qal (Qaa ?_))));refine wr (pN 1 k z λa k=>nn (wp_ret (fS h k m z z)))
 exact ⟨0,k.keep [0,1,7,8] z,m.sl [] z,h⟩
theorem Qrm (fu:Nat) {w0:World} (r1:Request) (Ac:Int) {Ad:List Value} {F3:List Nat} (Al:rd w0 F3 Ad r1) {r:Typ×Bool}
    (h:Qhh fu r1 Ac=some r) :
    Calls Tryz.prog 79 #[.agg Ad.toArray,I Ac] w0 λe w=>e=.returned (.tuple #[.agg (Flat.e r.1).toArray,.bool (r.2)])∧Ext [] w0 w:=by
 refine en (vs:=[_,_]) func79 z ntmps79 z λa k m=>?_;obtain ⟨v6,F7,v8,F9,Ao,Bc,rfl,rfl,Av,Ab,Be⟩:=Al;unfold Qhh at h;refine wr (Qbk (cs:=(cR r1 v6 v8 Ao)) m k z z z z z z λAt Ay a k m e Ae=>Qbk (cs:=[I Ac]) m k z z z z z z λAh Aw a k m e Ap=>Qaq (cs:=[I 0,I 0,I 0,I 0,I 0,I 0,I 0]) m k zeroValue65 z z z z z λBa Bb a k m e Ag=>pN 1 k z λa k=>nn (wr (fl Qew t127 m 2 Ae k z z λa k=>pN 1 k z λa k=>oE h λAx Ai h=>?_)));refine cC k m call108 z (Qhq fu _ _ (m.r Ab) ⟨163,[pt Ah],z,call163,λw Bd Az r e Aq hx=>by subst Aq; have m:=m.step e; exact Qxs fu _ _ (Ap.agr (m.a 1 rfl) (by simp)) hx⟩ Ai) λAr e a k m=>pN 1 k rfl λa k=>nn (wp_seq (wr (pN 2 k rfl λa k=>nn (cI h k rfl (λAk h=>?_) λAk h=>?_))))
 · refine wr (sv k z (Qa7 Q7l k (cs:=#[I 0,I 0,I 0,I 0,I 0,I 0,I 0]) (ps:=[]) z z (by kernel_rfl)) λa k=>sT (cs':=[I 0,I 0,I 0,I 0,I 0,I 0,I 0]) sizeOf65 m 0 Ag 0 k z z λAu a k e m Aj=>pN 1 k z λa k=>nn (wp_ret (Qad ?_)));cases h;exact Quz k z (RV.cA k z Qto (Aj.at (m.a 0 z) 0 7 z z z) z) (RV.tmp k z) ⟨z,m.ext⟩
 refine wp_skip (Qaa ?_);refine wr (fl Qew t127 m 2 Ae k z z λa k=>pN 1 k z λa k=>oE h λAa Af h=>sv k z (Qak Ab Af k Q3v z z z) λa k=>sv k z (Qjg Ab (m.a00 (Enc.rd_lt Ab)) Af Qto k z z) λa k=>sT (cs':=[I Aa.qQ,I Aa.fW,I Aa.fH,I Aa.fD,I Aa.ft,I Aa.fQ,I Aa.fK]) sizeOf65 m 0 Ag 0 k z z λAs a k e m Am=>pN 1 k z λa k=>nn (wp_ret ?_));cases h;exact Quz k z (RV.cA k z Qto (Am.at (m.a 0 z) 0 7 z z z) z) (RV.tmp k z) ⟨z,m.ext⟩
theorem Qta (fu:Nat) {w0:World} (r1:Request) {Af:List Value} {F3:List Nat} (Aj:rd w0 F3 Af r1) {r:Typ×Bool}
    (h:Qig fu r1=some r) :
    Calls Tryz.prog 34 #[.agg Af.toArray] w0 λe w=>e=.returned (.tuple #[.agg (Flat.e r.1).toArray,.bool (r.2)])∧Ext [] w0 w:=by
 refine en (vs:=[_]) func34 z ntmps34 z λa k m=>?_;obtain ⟨v5,F6,v7,F8,v9,Ap,rfl,rfl,Ab,Ac,Ae⟩:=Aj;unfold Qig at h;refine wr (Qbk (cs:=(cR r1 v5 v7 v9)) m k z z z z z z λAr Ao a k m e Ad=>Qaq (cs:=[I 0,I 0,I 0,I 0,I 0,I 0,I 0]) m k zeroValue65 z z z z z λAq Am a k m e Ai=>pN 1 k z λa k=>nn (wr (sv k z (rL Qe6 m 1 Ad 0 k z) λa k=>fl Q4q t13 m 1 Ad k z z λa k=>oE h λAa Ah h=>?_)));refine cC k m call79 z (Qrm fu _ _ (Qag (m.r Ab) (m.r Ac) (m.r Ae)) Ah) λAk e a k m=>pN 2 k z λa k=>sT (cs':=[I Aa.1.qQ,I Aa.1.fW,I Aa.1.fH,I Aa.1.fD,I Aa.1.ft,I Aa.1.fQ,I Aa.1.fK]) sizeOf65 m 0 Ai 0 k z z λAl a k e m Ag=>pN 1 k z λa k=>nn (wp_ret ?_);cases h;exact Quz k z (RV.cA k z Qto (Ag.at (m.a 0 z) 0 7 z z z) z) (RV.tmp k z) ⟨z,m.ext⟩
theorem Qbp (fu:Nat) {w0:World} (n1:Int) (Ab:Int) (Ac:Int)  {r:Bool}
    (h:Qbh fu n1 Ab Ac=some r) :
    Calls Tryz.prog 56 #[I n1,I Ab,I Ac] w0 λe w=>e=.returned (.bool (r))∧Ext [] w0 w:=by
 refine en (vs:=[_,_,_]) func56 z ntmps56 z λa k m=>?_;unfold Qbh at h;refine wr (pN 1 k z λa k=>nn (wr (pN 4 k z λa k=>Qam (decide (n1≥Ab)) (λAa=>?_) (λAa=>?_))))
 · have h:=Qa0 Aa h;refine rB k 10 z Aa λk=>pN 5 k z λa k=>nn (wp_ret (fS h k m z z))
 have h:=Qaz Aa h;refine rB k 10 z Aa λk=>pN 5 k z λa k=>nn (wp_ret (fS h k m z z))
theorem Qfa (fu:Nat) {w0:World} (n1:Int)  {r:Bool}
    (h:Qc5 fu n1=some r) :
    Calls Tryz.prog 176 #[I n1] w0 λe w=>e=.returned (.bool (r))∧Ext [] w0 w:=by
 refine en (vs:=[_]) func176 z ntmps176 z λa k m=>?_;unfold Qc5 at h;refine wr (pN 1 k z λa k=>nn (wr (pN 1 k z λa k=>oE h λx2 Aa h=>cC k m call56 z (Qbp fu _ _ _  Aa) λw5 e a k m=>pN 1 k z λa k=>nn (wp_ret (fS h k m z z)))))
theorem Qrs (fu:Nat) {w0:World} (x1:Pallet)  {r:Bool}
    (h:Qe7 fu x1=some r) :
    Calls Tryz.prog 97 #[.agg (Flat.e (x1)).toArray] w0 λe w=>e=.returned (.bool (r))∧Ext [] w0 w:=by
 refine en (vs:=[_]) func97 z ntmps97 z λa k m=>?_;unfold Qe7 at h;refine wr (Qbk (cs:=[I x1.fW,I x1.fD,I x1.fH,I x1.fQ]) m k z z z z z z λb2 w4 a k m e Ad=>pN 1 k z λa k=>nn (wr (fl Qus t13 m 0 Ad k z z λa k=>oE h λx5 Ah h=>cC k m call176 z (Qfa fu _  Ah) λw9 e a k m=>pN 1 k z λa k=>Qam (x5) (λAc=>?_) (λAc=>?_))))
 · have h:=Qa0 Ac h;refine rB k 6 z Ac λk=>fl Que t13 m 0 Ad k z z λa k=>oE h λAi Aj h=>cC k m call176 z (Qfa fu _  Aj) λAk e a k m=>pN 2 k z λa k=>Qam (Ai) (λAb=>?_) (λAb=>?_)
   · have h:=Qa0 Ab h;refine rB k 11 z Ab λk=>fl Qub t13 m 0 Ad k z z λa k=>oE h λAg Af h=>cC k m call176 z (Qfa fu _  Af) λAl e a k m=>pN 2 k z λa k=>Qam (Ag) (λAa=>?_) (λAa=>?_)
     · have h:=Qa0 Aa h;refine rB k 16 z Aa λk=>fl Qsi t13 m 0 Ad k z z λa k=>oE h λAo Ae h=>cC k m call56 z (Qbp fu _ _ _  Ae) λAm e a k m=>pN 2 k z λa k=>nn (wp_ret (fS h k m z z))
     have h:=Qaz Aa h;refine rB k 16 z Aa λk=>pN 5 k z λa k=>nn (wp_ret (fS h k m z z))
   have h:=Qaz Ab h;refine rB k 11 z Ab λk=>pN 10 k z λa k=>nn (wp_ret (fS h k m z z))
 have h:=Qaz Ac h;refine rB k 6 z Ac λk=>pN 15 k z λa k=>nn (wp_ret (fS h k m z z))
theorem Qoj (fu:Nat) {w0:World} (Ab:List Pair) (f5:Pair→Option Bool) {v2:Value} {F3:List Nat} (Ac:rd w0 F3 [v2] Ab) {v6:Value} (Ak:Qut Tryz.prog w0 v6 f5) {r:Int}
    (h:Qcc fu Ab f5=some r) :
    Calls Tryz.prog 177 #[v2,v6] w0 λe w=>e=.returned (I r)∧Ext [] w0 w:=by
 refine en (vs:=[_,_]) func177 z ntmps177 z λa k m=>?_;obtain ⟨Ai,Ah,rfl,Ag,Af⟩:=Ak;unfold Qcc at h;refine wr (pN 1 k z λa k=>nn (wp_seq (wr (pN 1 k z λa k=>sv k z (Qa5 (α:=Pair) Ac k underlying26 z z) λa k=>pN 1 k z λa k=>nn (wp_block (Qar (λn a w=>∃ (Aa:Int),K 19 [(0,v2),(1,(.func (.func Ai) #[] Ah.toArray)),(7,I (Ab.length:Int)),(8,I Aa)] a∧St [] w0 w []∧Qbb fu Ab f5 n Aa=some r) ?_ ?_ fu _ _ ?_))))))
 · rintro a w ⟨_,_,_,h⟩;exact nS h
 · rintro Am a Ar ⟨Aa,k,m,h⟩;rw [Qbb.eq_2] at h;unfold Qcj at h;refine wr (pN 1 k z λa k=>nn (wp_seq (cI h k z (λAj h=>?_) λAj h=>?_)))
   · refine wp_skip (Qaa ?_);refine wp_seq (wp_block (wr (pN 2 k z λa k=>nn (wr (pN 3 k z λa k=>oE h λAo Ad h=>sv k z (Qak Ac Ad k Jcl z z z) λa k=>sv k z (Qjg Ac (m.a00 (Enc.rd_lt Ac)) Ad Jce k z z) λa k=>oE h λAs Al h=>Qs3 k Ag z z z z z z (Af _ _ _ _ m.ext z Al) λAp Aq hR=>?_)))));obtain ⟨rfl,e⟩:=hR;refine ⟨_,z,λa k=>?_⟩;have m:=m.step e;refine nn (cI h k z (λAe h=>?_) λAe h=>?_)
     · refine wr (pN 2 k z λa k=>nn (wp_ret (Qah (Qad (Qad (Qah (Qad ?_)))))));refine fS h k m z z
     refine wp_skip (Qae (Qaa ?_));refine wp_region_lit (pN 2 k z λa k=>nn ?_);exact ⟨w64 (Aa+1),k.keep [0,1,7,8] z,m.sl [] z,h⟩
   refine wp_exit (Qaf (Qaf (Qal (Qaa ?_))));refine wr (pN 1 k z λa k=>nn (wp_ret (fS h k m z z)))
 exact ⟨0,k.keep [0,1,7,8] z,m.sl [] z,h⟩
theorem Qgw (fu:Nat) {w0:World} (Aa:List Pair) (f5:Pair→Option Bool) {v2:Value} {F3:List Nat} (Ab:rd w0 F3 [v2] Aa) {v6:Value} (Af:Qut Tryz.prog w0 v6 f5) {r:Bool}
    (h:Qbc fu Aa f5=some r) :
    Calls Tryz.prog 98 #[v2,v6] w0 λe w=>e=.returned (.bool (r))∧Ext [] w0 w:=by
 refine en (vs:=[_,_]) func98 z ntmps98 z λa k m=>?_;obtain ⟨Al,Aj,rfl,Ae,Ag⟩:=Af;unfold Qbc at h;refine wr (pN 1 k z λa k=>nn (wr (pN 2 k z λa k=>oE h λAi Ac h=>cC k m call177 z (Qoj fu _ _ (m.r Ab) ⟨_,_,z,Ae,λw Ad Ah r e=>Ag w Ad Ah r (m.ext.trans e (by simp))⟩ Ac) λAk e a k m=>pN 2 k z λa k=>nn (wp_ret (fS h k m z z)))))
theorem Qw5 (fu:Nat) {w0:World} (p1:Pair)  {r:Bool}
    (h:Qkn fu p1=some r) :
    Calls Tryz.prog 99 #[.agg (Flat.e (p1)).toArray] w0 λe w=>e=.returned (.bool (r))∧Ext [] w0 w:=by
 refine en (vs:=[_]) func99 z ntmps99 z λa k m=>?_;unfold Qkn at h;refine wr (Qbk (cs:=[I p1.fA,I p1.fB]) m k z z z z z z λb2 w4 a k m e Ab=>pN 1 k z λa k=>nn (wr (fl Qzb t13 m 0 Ab k z z λa k=>oE h λx5 Ac h=>cC k m call56 z (Qbp fu _ _ _  Ac) λw9 e a k m=>pN 2 k z λa k=>Qam (!x5) (λAa=>?_) (λAa=>?_))))
 · have h:=Qa0 Aa h;refine rB k 7 z Aa λk=>pN 6 k z λa k=>nn (wp_ret (fS h k m z z))
 have h:=Qaz Aa h;refine rB k 7 z Aa λk=>fl Qy9 t13 m 0 Ab k z z λa k=>oE h λAf Ad h=>cC k m call56 z (Qbp fu _ _ _  Ad) λAe e a k m=>pN 3 k z λa k=>nn (wp_ret (fS h k m z z))
theorem Qd8 (fu:Nat) {w0:World} (Aa:List Typ) (f5:Typ→Option Bool) {v2:Value} {F3:List Nat} (Ab:rd w0 F3 [v2] Aa) {v6:Value} (Af:Qut Tryz.prog w0 v6 f5) {r:Bool}
    (h:Qau fu Aa f5=some r) :
    Calls Tryz.prog 41 #[v2,v6] w0 λe w=>e=.returned (.bool (r))∧Ext [] w0 w:=by
 refine en (vs:=[_,_]) func41 z ntmps41 z λa k m=>?_;obtain ⟨Al,Aj,rfl,Ae,Ag⟩:=Af;unfold Qau at h;refine wr (pN 1 k z λa k=>nn (wr (pN 2 k z λa k=>oE h λAi Ac h=>cC k m call108 z (Qhq fu _ _ (m.r Ab) ⟨_,_,z,Ae,λw Ad Ah r e=>Ag w Ad Ah r (m.ext.trans e (by simp))⟩ Ac) λAk e a k m=>pN 2 k z λa k=>nn (wp_ret (fS h k m z z)))))
theorem Q2n (fu:Nat) {w0:World} (x1:Typ)  {r:Bool}
    (h:Qrq fu x1=some r) :
    Calls Tryz.prog 101 #[.agg (Flat.e (x1)).toArray] w0 λe w=>e=.returned (.bool (r))∧Ext [] w0 w:=by
 refine en (vs:=[_]) func101 z ntmps101 z λa k m=>?_;unfold Qrq at h;refine wr (Qbk (cs:=[I x1.qQ,I x1.fW,I x1.fH,I x1.fD,I x1.ft,I x1.fQ,I x1.fK]) m k z z z z z z λb2 w4 a k m e Aa=>pN 1 k z λa k=>nn (wr (fl Qsr t13 m 0 Aa k z z λa k=>oE h λx5 Am h=>cC k m call56 z (Qbp fu _ _ _  Am) λw9 e a k m=>pN 1 k z λa k=>Qam (x5) (λAg=>?_) (λAg=>?_))))
 · have h:=Qa0 Ag h;refine rB k 6 z Ag λk=>fl Qu5 t13 m 0 Aa k z z λa k=>oE h λAt Ao h=>cC k m call176 z (Qfa fu _  Ao) λAx e a k m=>pN 2 k z λa k=>Qam (At) (λAc=>?_) (λAc=>?_)
   · have h:=Qa0 Ac h;refine rB k 11 z Ac λk=>fl Qud t13 m 0 Aa k z z λa k=>oE h λAl Aj h=>cC k m call176 z (Qfa fu _  Aj) λAy e a k m=>pN 2 k z λa k=>Qam (Al) (λAd=>?_) (λAd=>?_)
     · have h:=Qa0 Ad h;refine rB k 16 z Ad λk=>fl Qun t13 m 0 Aa k z z λa k=>oE h λAr As h=>cC k m call176 z (Qfa fu _  As) λAz e a k m=>pN 2 k z λa k=>Qam (Ar) (λAf=>?_) (λAf=>?_)
       · have h:=Qa0 Af h;refine rB k 21 z Af λk=>fl Q17 t13 m 0 Aa k z z λa k=>oE h λAk Ai h=>cC k m call56 z (Qbp fu _ _ _  Ai) λAu e a k m=>pN 2 k z λa k=>Qam (Ak) (λAb=>?_) (λAb=>?_)
         · have h:=Qa0 Ab h;refine rB k 26 z Ab λk=>fl Qvj t13 m 0 Aa k z z λa k=>oE h λAq Ah h=>cC k m call56 z (Qbp fu _ _ _  Ah) λBa e a k m=>pN 2 k z λa k=>Qam (Aq) (λAe=>?_) (λAe=>?_)
           · have h:=Qa0 Ae h;refine rB k 31 z Ae λk=>fl Qvp t13 m 0 Aa k z z λa k=>oE h λAw Ap h=>cC k m call56 z (Qbp fu _ _ _  Ap) λAv e a k m=>pN 2 k z λa k=>?_;have k:=k.keep [2] z;refine nn (wp_ret (fS h k m z z))
           have h:=Qaz Ae h;refine rB k 31 z Ae λk=>pN 5 k z λa k=>?_;have k:=k.keep [2] z;refine nn (wp_ret (fS h k m z z))
         have h:=Qaz Ab h;refine rB k 26 z Ab λk=>pN 10 k z λa k=>?_;have k:=k.keep [2] z;refine nn (wp_ret (fS h k m z z))
       have h:=Qaz Af h;refine rB k 21 z Af λk=>pN 15 k z λa k=>?_;have k:=k.keep [2] z;refine nn (wp_ret (fS h k m z z))
     have h:=Qaz Ad h;refine rB k 16 z Ad λk=>pN 20 k z λa k=>?_;have k:=k.keep [2] z;refine nn (wp_ret (fS h k m z z))
   have h:=Qaz Ac h;refine rB k 11 z Ac λk=>pN 25 k z λa k=>?_;have k:=k.keep [2] z;refine nn (wp_ret (fS h k m z z))
 have h:=Qaz Ag h;refine rB k 6 z Ag λk=>pN 30 k z λa k=>?_;have k:=k.keep [2] z;refine nn (wp_ret (fS h k m z z))
theorem Qxm (fu:Nat) {w0:World} (t1:Typ)  {r:Bool}
    (h:Qkf fu t1=some r) :
    Calls Tryz.prog 100 #[.agg (Flat.e (t1)).toArray] w0 λe w=>e=.returned (.bool (r))∧Ext [] w0 w:=by
 refine en (vs:=[_]) func100 z ntmps100 z λa k m=>?_;unfold Qkf at h;refine wr (Qbk (cs:=[I t1.qQ,I t1.fW,I t1.fH,I t1.fD,I t1.ft,I t1.fQ,I t1.fK]) m k z z z z z z λb2 w4 a k m e Ab=>pN 1 k z λa k=>nn (wr (sv k z (rL Qto m 0 Ab 0 k z) λa k=>oE h λx5 Aa h=>cC k m call101 z (Q2n fu (t1:Typ)  Aa) λw9 e a k m=>pN 2 k z λa k=>nn (wp_ret (fS h k m z z)))))
theorem Q3r (fu:Nat) {w0:World} (x1:Item)  {r:Bool}
    (h:Qrk fu x1=some r) :
    Calls Tryz.prog 102 #[.agg (Flat.e (x1)).toArray] w0 λe w=>e=.returned (.bool (r))∧Ext [] w0 w:=by
 refine en (vs:=[_]) func102 z ntmps102 z λa k m=>?_;unfold Qrk at h;refine wr (Qbk (cs:=[I x1.qQ,I x1.fW,I x1.fH,I x1.fD,I x1.fQ,I x1.fM,I x1.fO]) m k z z z z z z λb2 w4 a k m e Aa=>pN 1 k z λa k=>nn (wr (fl Q1u t13 m 0 Aa k z z λa k=>oE h λx5 Am h=>cC k m call56 z (Qbp fu _ _ _  Am) λw9 e a k m=>pN 1 k z λa k=>Qam (x5) (λAg=>?_) (λAg=>?_))))
 · have h:=Qa0 Ag h;refine rB k 6 z Ag λk=>fl Qzf t13 m 0 Aa k z z λa k=>oE h λAt Ao h=>cC k m call176 z (Qfa fu _  Ao) λAx e a k m=>pN 2 k z λa k=>Qam (At) (λAc=>?_) (λAc=>?_)
   · have h:=Qa0 Ac h;refine rB k 11 z Ac λk=>fl Qz3 t13 m 0 Aa k z z λa k=>oE h λAl Aj h=>cC k m call176 z (Qfa fu _  Aj) λAy e a k m=>pN 2 k z λa k=>Qam (Al) (λAd=>?_) (λAd=>?_)
     · have h:=Qa0 Ad h;refine rB k 16 z Ad λk=>fl Qx5 t13 m 0 Aa k z z λa k=>oE h λAr As h=>cC k m call176 z (Qfa fu _  As) λAz e a k m=>pN 2 k z λa k=>Qam (Ar) (λAf=>?_) (λAf=>?_)
       · have h:=Qa0 Af h;refine rB k 21 z Af λk=>fl Qx0 t13 m 0 Aa k z z λa k=>oE h λAk Ai h=>cC k m call56 z (Qbp fu _ _ _  Ai) λAu e a k m=>pN 2 k z λa k=>Qam (Ak) (λAb=>?_) (λAb=>?_)
         · have h:=Qa0 Ab h;refine rB k 26 z Ab λk=>fl Qv2 t13 m 0 Aa k z z λa k=>oE h λAq Ah h=>cC k m call56 z (Qbp fu _ _ _  Ah) λBa e a k m=>pN 2 k z λa k=>Qam (Aq) (λAe=>?_) (λAe=>?_)
           · have h:=Qa0 Ae h;refine rB k 31 z Ae λk=>fl Qxx t13 m 0 Aa k z z λa k=>oE h λAw Ap h=>cC k m call56 z (Qbp fu _ _ _  Ap) λAv e a k m=>pN 2 k z λa k=>?_;have k:=k.keep [2] z;refine nn (wp_ret (fS h k m z z))
           have h:=Qaz Ae h;refine rB k 31 z Ae λk=>pN 5 k z λa k=>?_;have k:=k.keep [2] z;refine nn (wp_ret (fS h k m z z))
         have h:=Qaz Ab h;refine rB k 26 z Ab λk=>pN 10 k z λa k=>?_;have k:=k.keep [2] z;refine nn (wp_ret (fS h k m z z))
       have h:=Qaz Af h;refine rB k 21 z Af λk=>pN 15 k z λa k=>?_;have k:=k.keep [2] z;refine nn (wp_ret (fS h k m z z))
     have h:=Qaz Ad h;refine rB k 16 z Ad λk=>pN 20 k z λa k=>?_;have k:=k.keep [2] z;refine nn (wp_ret (fS h k m z z))
   have h:=Qaz Ac h;refine rB k 11 z Ac λk=>pN 25 k z λa k=>?_;have k:=k.keep [2] z;refine nn (wp_ret (fS h k m z z))
 have h:=Qaz Ag h;refine rB k 6 z Ag λk=>pN 30 k z λa k=>?_;have k:=k.keep [2] z;refine nn (wp_ret (fS h k m z z))
theorem Qzh (fu:Nat) {w0:World} (r1:Request) {Ap:List Value} {F3:List Nat} (Be:rd w0 F3 Ap r1) {r:Bool}
    (h:Qn0 fu r1=some r) :
    Calls Tryz.prog 35 #[.agg Ap.toArray] w0 λe w=>e=.returned (.bool (r))∧Ext [] w0 w:=by
 refine en (vs:=[_]) func35 z ntmps35 z λa k m=>?_;obtain ⟨v5,F6,v7,F8,v9,Cd,rfl,rfl,Ao,Am,Ai⟩:=Be;unfold Qn0 at h;refine wr (Qbk (cs:=(cR r1 v5 v7 v9)) m k z z z z z z λAk Ar a k m e Aa=>pN 1 k z λa k=>nn (Qcw (λa w=>K 70 [(1,pt Ak)] a∧St [] w0 w [([Ak],Ar)]∧Qnc fu r1=some r) ?_ ?_))
 · rintro a Bv ⟨k,m,h⟩;unfold Qnc at h;refine wp_seq (wr (fl Qn9 Q18 m 0 Aa k z z λa k=>oE h λBu Ax h=>cC k m call98 z (Qgw fu _ _ (m.r Ao) ⟨99,[],z,call99,λw Cg By r e Ba hx=>by subst Ba; have m:=m.step e; exact Qw5 fu _  hx⟩ Ax) λBw e a k m=>nn (cI h k rfl (λAz h=>?_) λAz h=>?_)))
   · refine wr (pN 1 k z λa k=>nn (wp_ret (Qad ?_)));refine fS h k m z z
   refine wp_skip (Qaa ?_);refine Qcw (λa w=>K 70 [(1,pt Ak)] a∧St [] w0 w [([Ak],Ar)]∧Qnq fu r1=some r) ?_ ?_
   · rintro a Bs ⟨k,m,h⟩;unfold Qnq at h;refine wr (pN 1 k z λa k=>nn (wp_seq (wr (fl Qhf Qvh m 0 Aa k z z λa k=>sv k z (Qa5 (α:=Item) Ai k underlying28 z z) λa k=>pN 1 k z λa k=>nn (wp_block (Qar (λn a w=>∃ (Al:Int) (Aj:Int),K 70 [(3,I Al),(54,v9),(55,I (r1.fU.length:Int)),(56,I Aj)] a∧St [] w0 w []∧Qe3 fu r1 n Al Aj=some r) ?_ ?_ fu _ _ ?_))))))
     · rintro a w ⟨_,_,_,_,h⟩;exact nS h
     · rintro Bt a Bz ⟨Al,Aj,k,m,h⟩;rw [Qe3.eq_2] at h;unfold Qjm at h;refine wr (pN 1 k z λa k=>nn (wp_seq (cI h k z (λBo h=>?_) λBo h=>?_)))
       · refine wp_skip (Qaa ?_);refine wp_seq (wp_block (wr (oE h λAb As h=>sv k z (Qak Ai As k Qzq z z z) λa k=>sv k z (Qjg Ai (m.a00 (Enc.rd_lt Ai)) As Q14 k z z) λa k=>Qaq (cs:=[I 0,I 0,I 0,I 0,I 0,I 0,I 0]) m k zeroValue72 z z z z z λBr Cf a k m e Bf=>sT (cs':=[I Ab.qQ,I Ab.fW,I Ab.fH,I Ab.fD,I Ab.fQ,I Ab.fM,I Ab.fO]) sizeOf72 m 0 Bf 0 k z z λCl a k e m Aq=>nn (wp_seq (wr (sv k z (rL Q14 m 0 Aq 0 k z) λa k=>oE h λCc Bb h=>cC k m call102 z (Q3r fu (Ab:Item)  Bb) λCi e a k m=>?_))))));refine pN 1 k z λa k=>nn (cI h k z (λBn h=>?_) λBn h=>?_)
         · refine wr (pN 1 k z λa k=>nn (wp_ret (Qad (Qah (Qad (Qad (Qah (Qad ?_))))))));refine fS h k m z z
         refine wp_skip (Qaa ?_);refine wp_region_lit (pN 1 k z λa k=>fl Qxx t13 m 0 Aq k z z λa k=>pN 2 k z λa k=>wpList_nil (Qae (Qaa ?_)));refine wp_region_lit (pN 2 k z λa k=>nn ?_);exact ⟨w64 (Al+Ab.fO),w64 (Aj+1),k.keep [3,54,55,56] z,m.sl [] z,h⟩
       refine wp_exit (Qaf (Qaf (Qal (Qaa ?_))));refine wr (pN 3 k z λa k=>nn (wp_ret (fS h k m z z)))
     exact ⟨0,0,k.keep [3,54,55,56] z,m.sl [] z,h⟩
   refine wr (fl Qew t127 m 0 Aa k z z λa k=>sv k z (Qa5 (α:=Typ) Am k underlying27 z z) λa k=>oE h λBj Bl h=>cC k m call56 z (Qbp fu _ _ _  Bl) λCk e a k m=>pN 2 k z λa k=>Qam (!Bj) (λAe=>?_) (λAe=>?_))
   · have h:=Qa0 Ae h;refine rB k 36 z Ae λk=>pN 16 k z λa k=>?_;have k:=k.keep [1,52] z;refine nn (wp_cond_true (k.ev z) (wr (pN 1 k z λa k=>nn (wp_ret (Qad ?_)))));refine fS h k m z z
   have h:=Qaz Ae h;refine rB k 36 z Ae λk=>fl Qew t127 m 0 Aa k z z λa k=>oE h λBm Aw h=>cC k m call41 z (Qd8 fu _ _ (m.r Am) ⟨100,[],z,call100,λw Bx Ca r e Bc hx=>by subst Bc; have m:=m.step e; exact Qxm fu _  hx⟩ Aw) λCb e a k m=>pN 2 k rfl λa k=>Qam (Bm) (λAc=>?_) (λAc=>?_)
   · have h:=Qa0 Ac h;refine rB k 41 z Ac λk=>pN 11 k z λa k=>?_;have k:=k.keep [1,52] z;refine nn (wp_cond_true (k.ev z) (wr (pN 1 k z λa k=>nn (wp_ret (Qad ?_)))));refine fS h k m z z
   have h:=Qaz Ac h;refine rB k 41 z Ac λk=>fl Q4q t13 m 0 Aa k z z λa k=>oE h λAv Bg h=>cC k m call56 z (Qbp fu _ _ _  Bg) λCj e a k m=>pN 3 k z λa k=>Qam (!Av) (λAh=>?_) (λAh=>?_)
   · have h:=Qa0 Ah h;refine rB k 47 z Ah λk=>pN 5 k z λa k=>?_;have k:=k.keep [1,52] z;refine nn (wp_cond_true (k.ev z) (wr (pN 1 k z λa k=>nn (wp_ret (Qad ?_)))));refine fS h k m z z
   have h:=Qaz Ah h;refine rB k 47 z Ah λk=>fl Qhf Qvh m 0 Aa k z z λa k=>sv k z (Qa5 (α:=Item) Ai k underlying28 z z) λa k=>pN 2 k z λa k=>?_;have k:=k.keep [1,52] z;refine nn (cI h k z (λBh h=>?_) λBh h=>?_)
   · refine wr (pN 1 k z λa k=>nn (wp_ret (Qad ?_)));refine fS h k m z z
   refine wp_skip (Qaa ?_);exact ⟨k.keep [1] z,m.sl [0] z,h⟩
 refine wr (fl Q4j t13 m 0 Aa k z z λa k=>oE h λBd Bk h=>cC k m call56 z (Qbp fu _ _ _  Bk) λCh e a k m=>pN 2 k z λa k=>Qam (!Bd) (λAf=>?_) (λAf=>?_))
 · have h:=Qa0 Af h;refine rB k 10 z Af λk=>pN 17 k z λa k=>nn (wp_cond_true (k.ev z) (wr (pN 1 k z λa k=>?_)));have k:=k.keep [2] z;refine nn (wp_ret (Qad ?_));refine fS h k m z z
 have h:=Qaz Af h;refine rB k 10 z Af λk=>sv k z (Qhn Qs7 k z z) λa k=>sv k z (rL Qw1 m 0 Aa 1 k z) λa k=>oE h λAy Au h=>cC k m call97 z (Qrs fu (r1.fJ:Pallet)  Au) λBq e a k m=>pN 3 k z λa k=>Qam (!Ay) (λAg=>?_) (λAg=>?_)
 · have h:=Qa0 Ag h;refine rB k 16 z Ag λk=>pN 11 k z λa k=>nn (wp_cond_true (k.ev z) (wr (pN 1 k z λa k=>?_)));have k:=k.keep [2] z;refine nn (wp_ret (Qad ?_));refine fS h k m z z
 have h:=Qaz Ag h;refine rB k 16 z Ag λk=>fl Qtt t13 m 0 Aa k z z λa k=>oE h λBp At h=>cC k m call56 z (Qbp fu _ _ _  At) λCe e a k m=>pN 3 k z λa k=>Qam (!Bp) (λAd=>?_) (λAd=>?_)
 · have h:=Qa0 Ad h;refine rB k 22 z Ad λk=>pN 5 k z λa k=>nn (wp_cond_true (k.ev z) (wr (pN 1 k z λa k=>?_)));have k:=k.keep [2] z;refine nn (wp_ret (Qad ?_));refine fS h k m z z
 have h:=Qaz Ad h;refine rB k 22 z Ad λk=>fl Qn9 Q18 m 0 Aa k z z λa k=>sv k z (Qa5 (α:=Pair) Ao k underlying26 z z) λa k=>pN 2 k z λa k=>nn (cI h k z (λBi h=>?_) λBi h=>?_)
 · refine wr (pN 1 k z λa k=>?_);have k:=k.keep [2] z;refine nn (wp_ret (Qad ?_));refine fS h k m z z
 refine wp_skip (Qaa ?_);exact ⟨k.keep [1] z,m.sl [0] z,h⟩
theorem Qyd (fu:Nat) {w0:World} (q1:Typ) (x2:Typ) {b3:Nat} (Aa:bx w0 b3 [I x2.qQ,I x2.fW,I x2.fH,I x2.fD,I x2.ft,I x2.fQ,I x2.fK] 65) {r:Bool}
    (h:Qqd fu q1 x2=some r) :
    Calls Tryz.prog 103 #[.agg (Flat.e (q1)).toArray,pt b3] w0 λe w=>e=.returned (.bool (r))∧Ext [] w0 w:=by
 refine en (vs:=[_,_]) func103 z ntmps103 z λa k m=>?_;unfold Qqd at h;refine wr (Qbk (cs:=[I q1.qQ,I q1.fW,I q1.fH,I q1.fD,I q1.ft,I q1.fQ,I q1.fK]) m k z z z z z z λb5 w7 a k m e Ab=>pN 1 k z λa k=>nn (wr (fl Qsr t13 m 0 Ab k z z λa k=>sv k z (Qhn Qsr k z z) λa k=>sv k z (Qan t13 (r:=[]) (Aa.at (m.a00 Aa.lt1) 0 1 z z z) k z z) λa k=>pN 2 k z λa k=>nn (wp_ret (fS h k m z z)))))
theorem Qyq (fu:Nat) {w0:World} (q1:Item) (x2:Item) {b3:Nat} (Aa:bx w0 b3 [I x2.qQ,I x2.fW,I x2.fH,I x2.fD,I x2.fQ,I x2.fM,I x2.fO] 72) {r:Bool}
    (h:Qql fu q1 x2=some r) :
    Calls Tryz.prog 104 #[.agg (Flat.e (q1)).toArray,pt b3] w0 λe w=>e=.returned (.bool (r))∧Ext [] w0 w:=by
 refine en (vs:=[_,_]) func104 z ntmps104 z λa k m=>?_;unfold Qql at h;refine wr (Qbk (cs:=[I q1.qQ,I q1.fW,I q1.fH,I q1.fD,I q1.fQ,I q1.fM,I q1.fO]) m k z z z z z z λb5 w7 a k m e Ab=>pN 1 k z λa k=>nn (wr (fl Q1u t13 m 0 Ab k z z λa k=>sv k z (Qhn Q1u k z z) λa k=>sv k z (Qan t13 (r:=[]) (Aa.at (m.a00 Aa.lt1) 0 1 z z z) k z z) λa k=>pN 2 k z λa k=>nn (wp_ret (fS h k m z z)))))
theorem Qom (fu:Nat) {w0:World} (Ab:List Item) (f5:Item→Option Bool) {v2:Value} {F3:List Nat} (Ac:rd w0 F3 [v2] Ab) {v6:Value} (Ak:Qut Tryz.prog w0 v6 f5) {r:Int}
    (h:Qb8 fu Ab f5=some r) :
    Calls Tryz.prog 107 #[v2,v6] w0 λe w=>e=.returned (I r)∧Ext [] w0 w:=by
 refine en (vs:=[_,_]) func107 z ntmps107 z λa k m=>?_;obtain ⟨Ai,Ah,rfl,Ag,Af⟩:=Ak;unfold Qb8 at h;refine wr (pN 1 k z λa k=>nn (wp_seq (wr (pN 1 k z λa k=>sv k z (Qa5 (α:=Item) Ac k underlying28 z z) λa k=>pN 1 k z λa k=>nn (wp_block (Qar (λn a w=>∃ (Aa:Int),K 19 [(0,v2),(1,(.func (.func Ai) #[] Ah.toArray)),(7,I (Ab.length:Int)),(8,I Aa)] a∧St [] w0 w []∧Qa9 fu Ab f5 n Aa=some r) ?_ ?_ fu _ _ ?_))))))
 · rintro a w ⟨_,_,_,h⟩;exact nS h
 · rintro Am a Ar ⟨Aa,k,m,h⟩;rw [Qa9.eq_2] at h;unfold Qch at h;refine wr (pN 1 k z λa k=>nn (wp_seq (cI h k z (λAj h=>?_) λAj h=>?_)))
   · refine wp_skip (Qaa ?_);refine wp_seq (wp_block (wr (pN 2 k z λa k=>nn (wr (pN 3 k z λa k=>oE h λAo Ad h=>sv k z (Qak Ac Ad k Qzq z z z) λa k=>sv k z (Qjg Ac (m.a00 (Enc.rd_lt Ac)) Ad Q14 k z z) λa k=>oE h λAs Al h=>Qs3 k Ag z z z z z z (Af _ _ _ _ m.ext z Al) λAp Aq hR=>?_)))));obtain ⟨rfl,e⟩:=hR;refine ⟨_,z,λa k=>?_⟩;have m:=m.step e;refine nn (cI h k z (λAe h=>?_) λAe h=>?_)
     · refine wr (pN 2 k z λa k=>nn (wp_ret (Qah (Qad (Qad (Qah (Qad ?_)))))));refine fS h k m z z
     refine wp_skip (Qae (Qaa ?_));refine wp_region_lit (pN 2 k z λa k=>nn ?_);exact ⟨w64 (Aa+1),k.keep [0,1,7,8] z,m.sl [] z,h⟩
   refine wp_exit (Qaf (Qaf (Qal (Qaa ?_))));refine wr (pN 1 k z λa k=>nn (wp_ret (fS h k m z z)))
 exact ⟨0,k.keep [0,1,7,8] z,m.sl [] z,h⟩
theorem Qcv (fu:Nat) {w0:World} (Aa:List Item) (f5:Item→Option Bool) {v2:Value} {F3:List Nat} (Ab:rd w0 F3 [v2] Aa) {v6:Value} (Af:Qut Tryz.prog w0 v6 f5) {r:Bool}
    (h:Qav fu Aa f5=some r) :
    Calls Tryz.prog 38 #[v2,v6] w0 λe w=>e=.returned (.bool (r))∧Ext [] w0 w:=by
 refine en (vs:=[_,_]) func38 z ntmps38 z λa k m=>?_;obtain ⟨Al,Aj,rfl,Ae,Ag⟩:=Af;unfold Qav at h;refine wr (pN 1 k z λa k=>nn (wr (pN 2 k z λa k=>oE h λAi Ac h=>cC k m call107 z (Qom fu _ _ (m.r Ab) ⟨_,_,z,Ae,λw Ad Ah r e=>Ag w Ad Ah r (m.ext.trans e (by simp))⟩ Ac) λAk e a k m=>pN 2 k z λa k=>nn (wp_ret (fS h k m z z)))))
theorem Qyp (fu:Nat) {w0:World} (p1:Pair) (x2:Request) {v5:Value} {F6:List Nat} {v8:Value} {F9:List Nat} {Ad:Value} {Ae:List Nat} {b3:Nat} (Ab:bx w0 b3 (cR x2 v5 v8 Ad) 30) (Ah:rd w0 F6 [v5] x2.fP) (Af:rd w0 F9 [v8] x2.fR) (Ai:rd w0 Ae [Ad] x2.fU) {r:Bool}
    (h:Qmu fu p1 x2=some r) :
    Calls Tryz.prog 105 #[.agg (Flat.e (p1)).toArray,pt b3] w0 λe w=>e=.returned (.bool (r))∧Ext [] w0 w:=by
 refine en (vs:=[_,_]) func105 z ntmps105 z λa k m=>?_;unfold Qmu at h;refine wr (Qbk (cs:=[I p1.fA,I p1.fB]) m k z z z z z z λAj Ag a k m e Ac=>pN 1 k z λa k=>nn (wr (fl Qzb t13 m 0 Ac k z z λa k=>sv k z (Qhn Qtt k z z) λa k=>sv k z (Qan t13 (r:=[]) (Ab.at (m.a00 Ab.lt1) 5 1 z z z) k z z) λa k=>pN 2 k z λa k=>Qam (decide (p1.fA≥x2.fG)) (λAa=>?_) (λAa=>?_))))
 · have h:=Qa0 Aa h;refine rB k 9 z Aa λk=>pN 7 k z λa k=>nn (wp_ret (fS h k m z z))
 have h:=Qaz Aa h;refine rB k 9 z Aa λk=>fl Qy9 t13 m 0 Ac k z z λa k=>sv k z (Qhn Qtt k z z) λa k=>sv k z (Qan t13 (r:=[]) (Ab.at (m.a00 Ab.lt1) 5 1 z z z) k z z) λa k=>pN 3 k z λa k=>nn (wp_ret (fS h k m z z))
theorem Q1i (fu:Nat) {w0:World} (r1:Request) {Ap:List Value} {F3:List Nat} (Ba:rd w0 F3 Ap r1) {r:Bool}
    (h:Qpr fu r1=some r) :
    Calls Tryz.prog 36 #[.agg Ap.toArray] w0 λe w=>e=.returned (.bool (r))∧Ext [] w0 w:=by
 refine en (vs:=[_]) func36 z ntmps36 z λa k m=>?_;obtain ⟨v5,F6,v7,F8,v9,Ch,rfl,rfl,Ah,Aa,Ab⟩:=Ba;unfold Qpr at h;refine wr (Qbk (cs:=(cR r1 v5 v7 v9)) m k z z z z z z λAf Am a k m e Ac=>pN 1 k z λa k=>nn (wp_seq (wr (fl Qew t127 m 0 Ac k z z λa k=>sv k z (Qa5 (α:=Typ) Aa k underlying27 z z) λa k=>pN 1 k z λa k=>nn (wp_block (Qar (λn a w=>∃ (Al:Int),K 59 [(1,pt Af),(10,v7),(11,I (r1.fR.length:Int)),(12,I Al)] a∧St [] w0 w [([Af],Am)]∧Qfo fu r1 n Al=some r) ?_ ?_ fu _ _ ?_))))))
 · rintro a w ⟨_,_,_,h⟩;exact nS h
 · rintro Ci a Cg ⟨Al,k,m,h⟩;rw [Qfo.eq_2] at h;unfold Qk1 at h;refine wr (pN 1 k z λa k=>nn (wp_seq (cI h k z (λAu h=>?_) λAu h=>?_)))
   · refine wp_skip (Qaa ?_);refine wp_seq (wp_block (wr (pN 1 k z λa k=>oE h λAg Ar h=>sv k z (Qak Aa Ar k Q3v z z z) λa k=>sv k z (Qjg Aa (m.a00 (Enc.rd_lt Aa)) Ar Qto k z z) λa k=>Qaq (cs:=[I 0,I 0,I 0,I 0,I 0,I 0,I 0]) m k zeroValue65 z z z z z λAz Bs a k m e Bh=>pN 1 k z λa k=>sT (cs':=[I Ag.qQ,I Ag.fW,I Ag.fH,I Ag.fD,I Ag.ft,I Ag.fQ,I Ag.fK]) sizeOf65 m 0 Bh 0 k z z λCc a k e m Ax=>nn (wr (fl Qew t127 m 1 Ac k z z λa k=>pN 1 k z λa k=>oE h λCp Bj h=>?_)))));refine Jbm Aa Bj k Q3v z z z z z z λCj a k At=>pN 1 k z λa k=>oE h λBr Ay h=>cC k m call41 z (Qd8 fu _ _ (m.r At) ⟨103,[pt Az],z,call103,λw Cq Ce r e Bk hx=>by subst Bk; have m:=m.step e; exact Qyd fu _ _ (Ax.agr (m.a 0 rfl) (by simp)) hx⟩ Ay) λCd e a k m=>nn (cI h k rfl (λBe h=>?_) λBe h=>?_)
     · refine wr (pN 1 k z λa k=>nn (wp_ret (Qah (Qad (Qad (Qah (Qad ?_)))))));refine fS h k m z z
     refine wp_skip (Qae (Qaa ?_));refine wp_region_lit (pN 2 k z λa k=>nn ?_);exact ⟨w64 (Al+1),k.keep [1,10,11,12] z,m.sl [1] z,h⟩
   refine wp_exit (Qaf (Qaf (Qal (Qaa ?_))));refine wp_seq (wr (fl Qhf Qvh m 0 Ac k z z λa k=>sv k z (Qa5 (α:=Item) Ab k underlying28 z z) λa k=>pN 1 k z λa k=>nn (wp_block (Qar (λn a w=>∃ (Ai:Int),K 59 [(1,pt Af),(25,v9),(26,I (r1.fU.length:Int)),(27,I Ai)] a∧St [] w0 w [([Af],Am)]∧Qdx fu r1 n Ai=some r) ?_ ?_ fu _ _ ?_))))
   · rintro a w ⟨_,_,_,h⟩;exact nS h
   · rintro Bi a Bz ⟨Ai,k,m,h⟩;rw [Qdx.eq_2] at h;unfold Ql5 at h;refine wr (pN 1 k z λa k=>nn (wp_seq (cI h k z (λBc h=>?_) λBc h=>?_)))
     · refine wp_skip (Qaa ?_);refine Qcw (λa w=>K 59 [(1,pt Af),(25,v9),(26,I (r1.fU.length:Int)),(27,I Ai)] a∧St [] w0 w [([Af],Am)]∧Qo8 fu (Qdx fu r1 Bi) Ai=some r) ?_ ?_
       · rintro a Cs ⟨k,m,h⟩;unfold Qo8 at h;refine wp_region_lit (pN 2 k z λa k=>nn ?_);exact ⟨w64 (Ai+1),k.keep [1,25,26,27] z,m.sl [0] z,h⟩
       refine wp_block (wr (pN 1 k z λa k=>oE h λAd Aq h=>sv k z (Qak Ab Aq k Qzq z z z) λa k=>sv k z (Qjg Ab (m.a00 (Enc.rd_lt Ab)) Aq Q14 k z z) λa k=>Qaq (cs:=[I 0,I 0,I 0,I 0,I 0,I 0,I 0]) m k zeroValue72 z z z z z λBg Cb a k m e Aw=>pN 1 k z λa k=>sT (cs':=[I Ad.qQ,I Ad.fW,I Ad.fH,I Ad.fD,I Ad.fQ,I Ad.fM,I Ad.fO]) sizeOf72 m 0 Aw 0 k z z λBq a k e m Ao=>nn (wr (fl Qv2 t13 m 0 Ao k z z λa k=>sv k z (Qhn Qtt k z z) λa k=>?_))));refine sv k z (Qoy t13 m 1 Ac 5 k z z z z z) λa k=>pN 2 k z λa k=>Qam (decide (Ad.fM≥r1.fG)) (λAk=>?_) (λAk=>?_)
       · have h:=Qa0 Ak h;refine rB k 37 z Ak λk=>pN 7 k z λa k=>nn (wp_cond_true (k.ev z) (wr (pN 1 k z λa k=>nn (wp_ret (Qah (Qad (Qad (Qah (Qad ?_)))))))));refine fS h k m z z
       have h:=Qaz Ak h;refine rB k 37 z Ak λk=>fl Qhf Qvh m 1 Ac k z z λa k=>pN 1 k z λa k=>oE h λCk Bd h=>Jbm Ab Bd k Qzq z z z z z z λCf a k As=>pN 1 k z λa k=>oE h λBw Bm h=>cC k m call38 z (Qcv fu _ _ (m.r As) ⟨104,[pt Bg],z,call104,λw Cr By r e Bl hx=>by subst Bl; have m:=m.step e; exact Qyq fu _ _ (Ao.agr (m.a 0 rfl) (by simp)) hx⟩ Bm) λBp e a k m=>pN 1 k rfl λa k=>nn (cI h k rfl (λAv h=>?_) λAv h=>?_)
       · refine wr (pN 1 k z λa k=>nn (wp_ret (Qah (Qad (Qad (Qah (Qad ?_)))))));refine fS h k m z z
       refine wp_skip (Qae (Qaa ?_));exact ⟨k.keep [1,25,26,27] z,m.sl [1] z,h⟩
     refine wp_exit (Qaf (Qaf (Qal (Qaa ?_))));refine wr (sv k z (rL Qe6 m 0 Ac 0 k z) λa k=>oE h λAe Bo h=>cC k m call34 z (Qta fu _ (Qag (m.r Ah) (m.r Aa) (m.r Ab)) Bo) λCl e a k m=>pN 3 k z λa k=>Qaq (cs:=[I 0,I 0,I 0,I 0,I 0,I 0,I 0]) m k zeroValue65 z z z z z λCm Ca a k m e Bf=>?_);refine sT (cs':=[I Ae.1.qQ,I Ae.1.fW,I Ae.1.fH,I Ae.1.fD,I Ae.1.ft,I Ae.1.fQ,I Ae.1.fK]) sizeOf65 m 0 Bf 0 k z z λCn a k e m Bx=>pN 1 k z λa k=>nn (wr (pN 2 k z λa k=>Qam (Ae.2) (λAj=>?_) (λAj=>?_)))
     · have h:=Qa0 Aj h;refine rB k 52 z Aj λk=>fl Qn9 Q18 m 1 Ac k z z λa k=>pN 1 k z λa k=>oE h λBt Bb h=>cC k m call98 z (Qgw fu _ _ (m.r Ah) ⟨105,[pt Af],z,call105,λw Bu Co r e Bn hx=>by subst Bn; have m:=m.step e; exact Qyp fu _ _ (Ac.agr (m.a 1 rfl) (by simp)) (m.r Ah) (m.r Aa) (m.r Ab) hx⟩ Bb) λBv e a k m=>pN 3 k rfl λa k=>nn (wp_ret (fS h k m rfl rfl))
     have h:=Qaz Aj h;refine rB k 52 z Aj λk=>pN 7 k z λa k=>nn (wp_ret (fS h k m z z))
   exact ⟨0,k.keep [1,25,26,27] z,m.sl [0] z,h⟩
 exact ⟨0,k.keep [1,10,11,12] z,m.sl [0] z,h⟩
theorem Qqx (fu:Nat) {w0:World} (Aa:List Pair) (v5:Pair) {v2:Value} {F3:List Nat} (Ab:rd w0 F3 [v2] Aa) {r:Int}
    (h:Qdt fu Aa v5=some r) :
    Calls Tryz.prog 218 #[v2,.agg (Flat.e (v5)).toArray] w0 λe w=>e=.returned (I r)∧Ext [] w0 w:=by
 refine en (vs:=[_,_]) func218 z ntmps218 z λa k m=>?_;unfold Qdt at h;refine wr (Qbk (cs:=[I v5.fA,I v5.fB]) m k z z z z z z λb6 w9 a k m e Ai=>pN 1 k z λa k=>nn (wp_seq (wr (pN 1 k z λa k=>sv k z (Qa5 (α:=Pair) Ab k underlying26 z z) λa k=>pN 1 k z λa k=>nn (wp_block (Qar (λn a w=>∃ (Ac:Int),K 19 [(0,v2),(3,pt b6),(7,I (Aa.length:Int)),(8,I Ac)] a∧St [] w0 w [([b6],w9)]∧Qbf fu Aa v5 n Ac=some r) ?_ ?_ fu _ _ ?_))))))
 · rintro a w ⟨_,_,_,h⟩;exact nS h
 · rintro Aj a Ak ⟨Ac,k,m,h⟩;rw [Qbf.eq_2] at h;unfold Qc4 at h;refine wr (pN 1 k z λa k=>nn (wp_seq (cI h k z (λAg h=>?_) λAg h=>?_)))
   · refine wp_skip (Qaa ?_);refine wp_seq (wp_block (wr (pN 2 k z λa k=>nn (wp_seq (Qiq [] Qie m z λAh hMd=>?_)))));have m:=hMd;have s:=Ext.refl ([]:List Nat) Ah;refine dM [1,2] 2 z k z s λa k=>dT k 0 z z s (λw s=>Qdr Jce (Ai.at ((hMd.step s).a 0 z) 0 2 z z z) z k z z) λa k=>oE h λAf Ad h=>dT k 3 z z s (λw s=>Qak Ab Ad k Jcl z z z) λa k=>dT k 4 z z s (λw s=>Qjg Ab ((hMd.step s).a00 (Enc.rd_lt Ab)) Ad Jce k z z) λa k=>dT k 5 z z s (λw s=>Jjb Jgn (x:=v5) (y:=Af) k z z z z z) λa k=>dD ((Qaa ?_));refine cI h k z (λAe h=>?_) λAe h=>?_
     · refine wr (pN 2 k z λa k=>nn (wp_ret (Qah (Qad (Qad (Qah (Qad ?_)))))));refine fS h k m z z
     refine wp_skip (Qae (Qaa ?_));refine wp_region_lit (pN 2 k z λa k=>nn ?_);exact ⟨w64 (Ac+1),k.keep [0,3,7,8] z,m.sl [0] z,h⟩
   refine wp_exit (Qaf (Qaf (Qal (Qaa ?_))));refine wr (pN 1 k z λa k=>nn (wp_ret (fS h k m z z)))
 exact ⟨0,k.keep [0,3,7,8] z,m.sl [0] z,h⟩
theorem Qpg (fu:Nat) {w0:World} (Aa:List Pair) (v5:Pair) {v2:Value} {F3:List Nat} (Ab:rd w0 F3 [v2] Aa) {r:Bool}
    (h:Qdd fu Aa v5=some r) :
    Calls Tryz.prog 178 #[v2,.agg (Flat.e (v5)).toArray] w0 λe w=>e=.returned (.bool (r))∧Ext [] w0 w:=by
 refine en (vs:=[_,_]) func178 z ntmps178 z λa k m=>?_;unfold Qdd at h;refine wr (Qbk (cs:=[I v5.fA,I v5.fB]) m k z z z z z z λb6 w9 a k m e Ad=>pN 1 k z λa k=>nn (wr (pN 1 k z λa k=>sv k z (rL Jce m 0 Ad 0 k z) λa k=>oE h λAe Ac h=>cC k m call218 z (Qqx fu _ (v5:Pair) (m.r Ab) Ac) λAf e a k m=>pN 2 k z λa k=>nn (wp_ret (fS h k m z z)))))
theorem Qri (fu:Nat) {w0:World} (Ab:List Pair) (a5:Int) (b6:Int) {v2:Value} {F3:List Nat} (Aa:rd w0 F3 [v2] Ab) {r:Bool}
    (h:Qhz fu Ab a5 b6=some r) :
    Calls Tryz.prog 106 #[v2,I a5,I b6] w0 λe w=>e=.returned (.bool (r))∧Ext [] w0 w:=by
 refine en (vs:=[_,_,_]) func106 z ntmps106 z λa k m=>?_;unfold Qhz at h;refine wr (pN 1 k z λa k=>nn (wr (pN 3 k z λa k=>sv k z (Qa7 Q9p k (cs:=#[I a5,I b6]) (ps:=[(0,.tmp 8),(1,.tmp 9)]) z z (by kernel_rfl)) λa k=>oE h λx7 Ac h=>cC k m call178 z (Qpg fu _ (⟨a5,b6⟩:Pair) (m.r Aa) Ac) λAd e a k m=>pN 1 k z λa k=>nn (wp_ret (fS h k m z z)))))
theorem Q04 (fu:Nat) {w0:World} (Ad:List Pair) (Aa:Int) {v2:Value} {F3:List Nat} (Ac:rd w0 F3 [v2] Ad) {r:Bool}
    (h:Qp5 fu Ad Aa=some r) :
    Calls Tryz.prog 37 #[v2,I Aa] w0 λe w=>e=.returned (.bool (r))∧Ext [] w0 w:=by
 refine en (vs:=[_,_]) func37 z ntmps37 z λa k m=>?_;unfold Qp5 at h;refine wr (pN 1 k z λa k=>nn (wp_seq (wr (pN 1 k z λa k=>oE h λx6 Am h=>cC k m call56 z (Qbp fu _ _ _  Am) λw9 e a k m=>pN 1 k z λa k=>nn (cI h k z (λAp h=>?_) λAp h=>?_)))))
 · refine wr (pN 1 k z λa k=>nn (wp_ret (Qad ?_)));refine fS h k m z z
 refine wp_skip (Qaa ?_);refine wp_seq (wr (pN 2 k z λa k=>nn (wp_block (Qar (λn a w=>∃ (Ab:Int),K 34 [(0,v2),(1,I Aa),(10,I Aa),(11,I Ab)] a∧St [] w0 w []∧Qfl fu Ad Aa n Ab=some r) ?_ ?_ fu _ _ ?_))))
 · rintro a w ⟨_,_,_,h⟩;exact nS h
 · rintro Ak a Av ⟨Ab,k,m,h⟩;rw [Qfl.eq_2] at h;unfold Qlp at h;refine wr (pN 1 k z λa k=>nn (wp_seq (cI h k z (λAo h=>?_) λAo h=>?_)))
   · refine wp_skip (Qaa ?_);refine wp_seq (wp_block (wr (pN 2 k z λa k=>nn (wp_seq (wr (pN 3 k z λa k=>oE h λAs Ah h=>cC k m call106 z (Qri fu _ _ _ (m.r Ac) Ah) λAw e a k m=>pN 1 k z λa k=>nn (cI h k z (λAi h=>?_) λAi h=>?_)))))))
     · refine wr (pN 1 k z λa k=>nn (wp_ret (Qad (Qah (Qad (Qad (Qah (Qad ?_))))))));refine fS h k m z z
     refine wp_skip (Qaa ?_);refine wr (pN 2 k z λa k=>nn (wp_block (Qar (λn a w=>∃ (Ae:Int),K 34 [(0,v2),(1,I Aa),(5,I Ab),(10,I Aa),(11,I Ab),(19,I Aa),(20,I Ae)] a∧St [] w0 w []∧Qfq fu (Qfl fu Ad Aa Ak) Ad Aa Ab n Ae=some r) ?_ ?_ fu _ _ ?_)))
     · rintro a w ⟨_,_,_,h⟩;exact nS h
     · rintro Aq a Ax ⟨Ae,k,m,h⟩;rw [Qfq.eq_2] at h;unfold Ql9 at h;refine wr (pN 1 k z λa k=>nn (wp_seq (cI h k z (λAf h=>?_) λAf h=>?_)))
       · refine wp_skip (Qaa ?_);refine wp_seq (wp_block (wr (pN 2 k z λa k=>nn (wr (pN 3 k z λa k=>oE h λAu Al h=>cC k m call106 z (Qri fu _ _ _ (m.r Ac) Al) λAr e a k m=>pN 3 k z λa k=>oE h λAy Ag h=>cC k m call106 z (Qri fu _ _ _ (m.r Ac) Ag) λAt e a k m=>sv k z (Jch k underlying4 z z z) λa k=>nn (cI h k z (λAj h=>?_) λAj h=>?_))))))
         · refine wr (pN 1 k z λa k=>nn (wp_ret (Qah (Qad (Qad (Qah (Qah (Qad (Qad (Qah (Qad ?_)))))))))));refine fS h k m z z
         refine wp_skip (Qae (Qaa ?_));refine wp_region_lit (pN 2 k z λa k=>nn ?_);exact ⟨w64 (Ae+1),k.keep [0,1,5,10,11,19,20] z,m.sl [] z,h⟩
       refine wp_exit (Qaf (Qaf (Qal (Qae (Qaa ?_)))));refine wp_region_lit (pN 2 k z λa k=>nn ?_);exact ⟨w64 (Ab+1),k.keep [0,1,10,11] z,m.sl [] z,h⟩
     exact ⟨0,k.keep [0,1,5,10,11,19,20] z,m.sl [] z,h⟩
   refine wp_exit (Qaf (Qaf (Qal (Qaa ?_))));refine wr (pN 1 k z λa k=>nn (wp_ret (fS h k m z z)))
 exact ⟨0,k.keep [0,1,10,11] z,m.sl [] z,h⟩
theorem Qhp (fu:Nat) {w0:World} (x1:List Int) {v2:Value} {F3:List Nat} (Aa:ow w0 F3 [v2] x1) {r:List Int}
    (h:Qck fu x1=some r) :
    Calls Tryz.prog 68 #[v2] w0 λe w=>∃ H:List Nat,e=.returned (.tuple #[])∧Ext F3 w0 w∧(∀ b∈H,b∈F3∨w0.heap.size≤b)∧ow w H [v2] r :=
  (Q9t (λblk off cap zs w=>Tryz.slices_Sort_int blk off cap zs w) (λp cap w=>Tryz.slices_Sort_int_none p cap w) x1 Aa h).mono λe w ⟨h1,h2,h3⟩=>⟨_,h1,h2,λb hb=>.inl hb,h3⟩
theorem Qzs (fu:Nat) {w0:World} (x1:Item) (t2:Typ)  {r:Bool}
    (h:Qrw fu x1 t2=some r) :
    Calls Tryz.prog 40 #[.agg (Flat.e (x1)).toArray,.agg (Flat.e (t2)).toArray] w0 λe w=>e=.returned (.bool (r))∧Ext [] w0 w:=by
 refine en (vs:=[_,_]) func40 z ntmps40 z λa k m=>?_;unfold Qrw at h;refine wr (Qbk (cs:=[I x1.qQ,I x1.fW,I x1.fH,I x1.fD,I x1.fQ,I x1.fM,I x1.fO]) m k z z z z z z λb3 w5 a k m e Ag=>Qbk (cs:=[I t2.qQ,I t2.fW,I t2.fH,I t2.fD,I t2.ft,I t2.fQ,I t2.fK]) m k z z z z z z λb6 w9 a k m e Af=>pN 1 k z λa k=>nn ?_);refine Qcw (λa w=>∃ (Ao:List Int) (Ap:Value) (Am:List Nat) (Ak:World) (Al:List Int) (Ah:Value) (Aj:List Nat) (Ai:World),K 57 [(2,pt b3),(3,pt b6),(5,Ap),(6,Ah)] a∧St [] w0 w [([b3],w5),([b6],w9),(Am,Ak),(Aj,Ai)]∧ow Ak Am [Ap] Ao∧ow Ai Aj [Ah] Al∧Qr9 fu x1 t2 Ao Al=some r) ?_ ?_
 · rintro a Cf ⟨Ao,Ap,Am,Ak,Al,Ah,Aj,Ai,k,m,Bg,Bk,h⟩;unfold Qr9 at h;refine wr (pN 1 k z λa k=>oE h λCm Bm h=>sC k call68 z (Qhp fu _ (m.v Bg 2 z) Bm) λCq Cl hR=>?_);obtain ⟨Ct,rfl,e,Bj,Ab⟩:=hR;refine ⟨_,z,λa k=>?_⟩;have m:=m.mut 2 z e _ (λb hb=>⟨Bj b hb,Enc.rd_lt (Enc.ow_rd Ab) b hb⟩) (Enc.ow_nd Ab);refine nn (wr (pN 1 k z λa k=>oE h λCe Bv h=>sC k call68 z (Qhp fu _ (m.v Bk 3 z) Bv) λCh Cr hR=>?_));obtain ⟨Cu,rfl,e,Bc,Aa⟩:=hR;refine ⟨_,z,λa k=>?_⟩;have m:=m.mut 3 z e _ (λb hb=>⟨Bc b hb,Enc.rd_lt (Enc.ow_rd Aa) b hb⟩) (Enc.ow_nd Aa);refine nn (wp_seq (Qiq [] Qie m z λBl hMd=>?_));have m:=hMd;have s:=Ext.refl ([]:List Nat) Bl
   refine dM [0,3] 2 z k z s λa k=>oE h λBz Au h=>dT k 1 z z s (λw s=>Qak (Enc.ow_rd Ab) Au k Qhi z z z) λa k=>dT k 2 z z s (λw s=>Qap (Enc.ow_rd Ab) ((hMd.step s).a 2 z) Au 0 t13 k z z z z) λa k=>oE h λCc Aq h=>dT k 4 z z s (λw s=>Qak (Enc.ow_rd Aa) Aq k Qhi z z z) λa k=>dT k 5 z z s (λw s=>Qap (Enc.ow_rd Aa) ((hMd.step s).a 3 z) Aq 0 t13 k z z z z) λa k=>dM [6,7] 2 z k z s λa k=>Qam (decide (Bz≤Cc)) (λAd=>?_) (λAd=>?_)
   · have h:=Qa0 Ad h;refine rB k 32 z Ad λk=>dM [8,11] 2 z k z s λa k=>oE h λBi Ax h=>dT k 9 z z s (λw s=>Qak (Enc.ow_rd Ab) Ax k Qhi z z z) λa k=>dT k 10 z z s (λw s=>Qap (Enc.ow_rd Ab) ((hMd.step s).a 2 z) Ax 0 t13 k z z z z) λa k=>oE h λBy Av h=>dT k 12 z z s (λw s=>Qak (Enc.ow_rd Aa) Av k Qhi z z z) λa k=>dT k 13 z z s (λw s=>Qap (Enc.ow_rd Aa) ((hMd.step s).a 3 z) Av 0 t13 k z z z z) λa k=>dM [14,15,16] 3 z k z s λa k=>Qam (decide (Bi≤By)) (λAc=>?_) (λAc=>?_)
     · have h:=Qa0 Ac h;refine rB k 41 z Ac λk=>dM [17,20] 2 z k z s λa k=>oE h λBb As h=>dT k 18 z z s (λw s=>Qak (Enc.ow_rd Ab) As k Qhi z z z) λa k=>dT k 19 z z s (λw s=>Qap (Enc.ow_rd Ab) ((hMd.step s).a 2 z) As 0 t13 k z z z z) λa k=>oE h λBp Az h=>dT k 21 z z s (λw s=>Qak (Enc.ow_rd Aa) Az k Qhi z z z) λa k=>dT k 22 z z s (λw s=>Qap (Enc.ow_rd Aa) ((hMd.step s).a 3 z) Az 0 t13 k z z z z) λa k=>dM [23,24,25] 3 z k z s λa k=>Qam (decide (Bb≤Bp)) (λAe=>?_) (λAe=>?_)
       · have h:=Qa0 Ae h;refine rB k 50 z Ae λk=>dF k 26 Qx0 z s λa k=>dT k 27 z z s (λw s=>Qan t13 (r:=[]) (Ag.at ((hMd.step s).a 0 z) 4 1 z z z) k z z) λa k=>dF k 28 Qvj z s λa k=>dT k 29 z z s (λw s=>Qan t13 (r:=[]) (Af.at ((hMd.step s).a 1 z) 5 1 z z z) k z z) λa k=>dM [30,31,32] 3 z k z s λa k=>dD ?_;have k:=k.keep [4] z;refine (Qaa ?_);refine wp_ret (fS h k m z z)
       have h:=Qaz Ae h;refine rB k 50 z Ae λk=>dM [26,27,28,29,30,31,32] 7 z k z s λa k=>dD ?_;have k:=k.keep [4] z;refine (Qaa ?_);refine wp_ret (fS h k m z z)
     have h:=Qaz Ac h;refine rB k 41 z Ac λk=>dM [17,18,19,20,21,22,23,24,25,26,27,28,29,30,31,32] 16 z k z s λa k=>dD ?_;have k:=k.keep [4] z;refine (Qaa ?_);refine wp_ret (fS h k m z z)
   have h:=Qaz Ad h;refine rB k 32 z Ad λk=>dM [8,9,10,11,12,13,14,15,16,17,18,19,20,21,22,23,24,25,26,27,28,29,30,31,32] 25 z k z s λa k=>dD ?_;have k:=k.keep [4] z;refine (Qaa ?_);refine wp_ret (fS h k m z z)
 refine Qiq [] Qie m z λBs hMd=>?_;have m:=hMd;have s:=Ext.refl ([]:List Nat) Bs;refine dF k 0 Qzf z s λa k=>dT k 1 z z s (λw s=>Qan t13 (r:=[]) (Ag.at ((hMd.step s).a 1 z) 1 1 z z z) k z z) λa k=>dF k 2 Qz3 z s λa k=>dT k 3 z z s (λw s=>Qan t13 (r:=[]) (Ag.at ((hMd.step s).a 1 z) 2 1 z z z) k z z) λa k=>dF k 4 Qx5 z s λa k=>dT k 5 z z s (λw s=>Qan t13 (r:=[]) (Ag.at ((hMd.step s).a 1 z) 3 1 z z z) k z z) λa k=>?_;refine dF k 7 Qu5 z s λa k=>dT k 8 z z s (λw s=>Qan t13 (r:=[]) (Af.at ((hMd.step s).a 0 z) 1 1 z z z) k z z) λa k=>dF k 9 Qud z s λa k=>dT k 10 z z s (λw s=>Qan t13 (r:=[]) (Af.at ((hMd.step s).a 0 z) 2 1 z z z) k z z) λa k=>dF k 11 Qun z s λa k=>dT k 12 z z s (λw s=>Qan t13 (r:=[]) (Af.at ((hMd.step s).a 0 z) 3 1 z z z) k z z) λa k=>Qir 6 13 (by kernel_rfl) z z ?_ ?_
 · refine Qdb (cs:=[I x1.fW,I x1.fH,I x1.fD]) (ps:=[(0,.tmp 8),(1,.tmp 10),(2,.tmp 12)]) Qb5 m k z z z z z z z (by decide) z (by exact fC z (fC z (fC z fN))) λAw Be Cj a k m e Bo Ca=>?_;have Cs:=lo1 (Nat.le_trans s.size Ca);have Br:=Qa6 Bo ([x1.fW,x1.fH,x1.fD]:List Int) z z z;refine ns s e λs=>?_;refine dM [14] 1 z k z s λa k=>dO 13 z (Qdb (cs:=[I t2.fW,I t2.fH,I t2.fD]) (ps:=[(0,.tmp 15),(1,.tmp 17),(2,.tmp 19)]) Qb5 m k z z z z z z z (by decide) z (by exact fC z (fC z (fC z fN))) λAr Bd Cn a k m e Ba Bf=>?_);have Co:=lo1 (Nat.le_trans s.size Bf);have Cb:=Qa6 Ba ([t2.fW,t2.fH,t2.fD]:List Int) z z z;refine ns s e λs=>?_;refine dM [15] 1 z k z s λa k=>dD ((Qaa ?_));exact ⟨([x1.fW,x1.fH,x1.fD]:List Int),(.slice (some ⟨Aw,0,none⟩) 3 3),[Aw],Be,([t2.fW,t2.fH,t2.fD]:List Int),(.slice (some ⟨Ar,0,none⟩) 3 3),[Ar],Bd,k.keep [2,3,5,6] z,m.sl [3,2,1,0] z,Br,Cb,h⟩
 refine Qdb (cs:=[I t2.fW,I t2.fH,I t2.fD]) (ps:=[(0,.tmp 15),(1,.tmp 17),(2,.tmp 19)]) Qb5 m k z z z z z z z (by decide) z (by exact fC z (fC z (fC z fN))) λAy Bq Cp a k m e Cd Bh=>?_;have Cg:=lo1 (Nat.le_trans s.size Bh);have Bt:=Qa6 Cd ([t2.fW,t2.fH,t2.fD]:List Int) z z z;refine ns s e λs=>?_;refine dO 6 z (Qdb (cs:=[I x1.fW,I x1.fH,I x1.fD]) (ps:=[(0,.tmp 8),(1,.tmp 10),(2,.tmp 12)]) Qb5 m k z z z z z z z (by decide) z (by exact fC z (fC z (fC z fN))) λAt Bx Ck a k m e Bn Bw=>?_);have Ci:=lo1 (Nat.le_trans s.size Bw);have Bu:=Qa6 Bn ([x1.fW,x1.fH,x1.fD]:List Int) z z z;refine ns s e λs=>?_;refine dM [14,15] 2 z k z s λa k=>dD ((Qaa ?_));exact ⟨([x1.fW,x1.fH,x1.fD]:List Int),(.slice (some ⟨At,0,none⟩) 3 3),[At],Bx,([t2.fW,t2.fH,t2.fD]:List Int),(.slice (some ⟨Ay,0,none⟩) 3 3),[Ay],Bq,k.keep [2,3,5,6] z,m.sl [3,2,0,1] z,Bu,Bt,h⟩
theorem Q1a (fu:Nat) {w0:World} (x1:Item) (x2:Typ) {b3:Nat} (Aa:bx w0 b3 [I x2.qQ,I x2.fW,I x2.fH,I x2.fD,I x2.ft,I x2.fQ,I x2.fK] 65) {r:Bool}
    (h:Qpx fu x1 x2=some r) :
    Calls Tryz.prog 39 #[.agg (Flat.e (x1)).toArray,pt b3] w0 λe w=>e=.returned (.bool (r))∧Ext [] w0 w:=by
 refine en (vs:=[_,_]) func39 z ntmps39 z λa k m=>?_;unfold Qpx at h;refine wr (Qbk (cs:=[I x1.qQ,I x1.fW,I x1.fH,I x1.fD,I x1.fQ,I x1.fM,I x1.fO]) m k z z z z z z λb5 w7 a k m e Ab=>pN 1 k z λa k=>nn (wr (sv k z (rL Q14 m 0 Ab 0 k z) λa k=>sv k z (Qdr Qto (Aa.at (m.a00 Aa.lt1) 0 7 z z z) z k z z) λa k=>oE h λx8 Ac h=>cC k m call40 z (Qzs fu (x1:Item) (x2:Typ)  Ac) λAd e a k m=>pN 2 k z λa k=>nn (wp_ret (fS h k m z z)))))
theorem Q1o (fu:Nat) {w0:World} (t1:Typ) (x2:Pallet) {b3:Nat} (Aa:bx w0 b3 [I x2.fW,I x2.fD,I x2.fH,I x2.fQ] 25) {r:Bool}
    (h:Qpv fu t1 x2=some r) :
    Calls Tryz.prog 42 #[.agg (Flat.e (t1)).toArray,pt b3] w0 λe w=>e=.returned (.bool (r))∧Ext [] w0 w:=by
 refine en (vs:=[_,_]) func42 z ntmps42 z λa k m=>?_;unfold Qpv at h;refine wr (Qbk (cs:=[I t1.qQ,I t1.fW,I t1.fH,I t1.fD,I t1.ft,I t1.fQ,I t1.fK]) m k z z z z z z λb5 w7 a k m e Ac=>pN 1 k z λa k=>nn (wr (fl Qu5 t13 m 0 Ac k z z λa k=>sv k z (Qhn Qus k z z) λa k=>sv k z (Qan t13 (r:=[]) (Aa.at (m.a00 Aa.lt1) 0 1 z z z) k z z) λa k=>pN 2 k z λa k=>Qam (decide (t1.fW>x2.fW)) (λAb=>?_) (λAb=>?_))))
 · have h:=Qa0 Ab h;refine rB k 9 z Ab λk=>pN 24 k z λa k=>?_;have k:=k.keep [3] z;refine nn (wp_ret (fS h k m z z))
 have h:=Qaz Ab h;refine rB k 9 z Ab λk=>fl Qun t13 m 0 Ac k z z λa k=>sv k z (Qhn Que k z z) λa k=>sv k z (Qan t13 (r:=[]) (Aa.at (m.a00 Aa.lt1) 1 1 z z z) k z z) λa k=>pN 3 k z λa k=>Qam (decide (t1.fD>x2.fD)) (λAd=>?_) (λAd=>?_)
 · have h:=Qa0 Ad h;refine rB k 16 z Ad λk=>pN 17 k z λa k=>?_;have k:=k.keep [3] z;refine nn (wp_ret (fS h k m z z))
 have h:=Qaz Ad h;refine rB k 16 z Ad λk=>fl Qud t13 m 0 Ac k z z λa k=>sv k z (Qhn Qub k z z) λa k=>sv k z (Qan t13 (r:=[]) (Aa.at (m.a00 Aa.lt1) 2 1 z z z) k z z) λa k=>pN 3 k z λa k=>Qam (decide (t1.fH>x2.fH)) (λAe=>?_) (λAe=>?_)
 · have h:=Qa0 Ae h;refine rB k 23 z Ae λk=>pN 10 k z λa k=>?_;have k:=k.keep [3] z;refine nn (wp_ret (fS h k m z z))
 have h:=Qaz Ae h;refine rB k 23 z Ae λk=>fl Q17 t13 m 0 Ac k z z λa k=>fl Qvj t13 m 0 Ac k z z λa k=>pN 1 k z λa k=>sv k z (Qhn Qsi k z z) λa k=>sv k z (Qan t13 (r:=[]) (Aa.at (m.a00 Aa.lt1) 3 1 z z z) k z z) λa k=>pN 3 k z λa k=>?_;have k:=k.keep [3] z;refine nn (wp_ret (fS h k m z z))
theorem Q35 (fu:Nat) {w0:World} (r1:Request) {Af:List Value} {F3:List Nat} (Al:rd w0 F3 Af r1) {r:Int}
    (h:Qsl fu r1=some r) :
    Calls Tryz.prog 14 #[.agg Af.toArray] w0 λe w=>e=.returned (I r)∧Ext [] w0 w:=by
 refine en (vs:=[_]) func14 z ntmps14 z λa k m=>?_;obtain ⟨v5,F6,v7,F8,v9,Bp,rfl,rfl,Ac,Ab,Ad⟩:=Al;unfold Qsl at h;refine wr (Qbk (cs:=(cR r1 v5 v7 v9)) m k z z z z z z λBm Bs a k m e Aa=>pN 1 k z λa k=>nn (wr (sv k z (rL Qe6 m 0 Aa 0 k z) λa k=>oE h λAe Aq h=>cC k m call34 z (Qta fu _ (Qag (m.r Ac) (m.r Ab) (m.r Ad)) Aq) λBk e a k m=>?_)));refine pN 3 k z λa k=>Qaq (cs:=[I 0,I 0,I 0,I 0,I 0,I 0,I 0]) m k zeroValue65 z z z z z λAp Br a k m e Ar=>sT (cs':=[I Ae.1.qQ,I Ae.1.fW,I Ae.1.fH,I Ae.1.fD,I Ae.1.ft,I Ae.1.fQ,I Ae.1.fK]) sizeOf65 m 0 Ar 0 k z z λBo a k e m Av=>pN 1 k z λa k=>nn (wr (sv k z (Qhn Qs7 k z z) λa k=>sv k z (rL Qw1 m 1 Aa 1 k z) λa k=>Qaq (cs:=[I 0,I 0,I 0,I 0]) m k zeroValue25 z z z z z λAw Bi a k m e Ba=>?_))
 refine sT (cs':=[I r1.fJ.fW,I r1.fJ.fD,I r1.fJ.fH,I r1.fJ.fQ]) sizeOf25 m 0 Ba 0 k z z λBd a k e m Ag=>nn (wp_seq (wp_block (wr (sv k z (rL Qe6 m 2 Aa 0 k z) λa k=>oE h λBq Ay h=>cC k m call35 z (Qzh fu _ (Qag (m.r Ac) (m.r Ab) (m.r Ad)) Ay) λBt e a k m=>pN 2 k z λa k=>nn ?_))));refine cI h k z (λAt h=>?_) λAt h=>?_
 · refine wr (pN 1 k z λa k=>nn (wp_ret (Qah (Qad ?_))));refine fS h k m z z
 refine wr (sv k z (rL Qe6 m 2 Aa 0 k z) λa k=>oE h λBl Ao h=>cC k m call36 z (Q1i fu _ (Qag (m.r Ac) (m.r Ab) (m.r Ad)) Ao) λBg e a k m=>pN 2 k z λa k=>nn (cI h k z (λAu h=>?_) λAu h=>?_))
 · refine wr (pN 1 k z λa k=>nn (wp_ret (Qah (Qad ?_))));refine fS h k m z z
 refine wr (fl Qn9 Q18 m 2 Aa k z z λa k=>fl Qtt t13 m 2 Aa k z z λa k=>oE h λBb Am h=>cC k m call37 z (Q04 fu _ _ (m.r Ac) Am) λBh e a k m=>pN 2 k z λa k=>?_);have k:=k.keep [1,3,5,21] z;refine nn (cI h k z (λAh h=>?_) λAh h=>?_)
 · refine wr (pN 1 k z λa k=>nn (wp_ret (Qah (Qad ?_))));refine fS h k m z z
 refine wr (fl Qhf Qvh m 2 Aa k z z λa k=>pN 1 k z λa k=>oE h λBw Ax h=>cC k m call38 z (Qcv fu _ _ (m.r Ad) ⟨39,[pt Ap],z,call39,λw Bu Bn r e Ai hx=>by subst Ai; have m:=m.step e; exact Q1a fu _ _ (Av.agr (m.a 1 rfl) (by simp)) hx⟩ Ax) λBe e a k m=>pN 1 k rfl λa k=>nn (cI h k rfl (λAj h=>?_) λAj h=>?_))
 · refine wr (pN 1 k z λa k=>nn (wp_ret (Qah (Qad ?_))));refine fS h k m z z
 refine wr (fl Qew t127 m 2 Aa k z z λa k=>pN 1 k z λa k=>oE h λBf As h=>cC k m call41 z (Qd8 fu _ _ (m.r Ab) ⟨42,[pt Aw],z,call42,λw Bj Bc r e Ak hx=>by subst Ak; have m:=m.step e; exact Q1o fu _ _ (Ag.agr (m.a 0 rfl) (by simp)) hx⟩ As) λBv e a k m=>pN 1 k rfl λa k=>nn (cI h k rfl (λAz h=>?_) λAz h=>?_))
 · refine wr (pN 1 k z λa k=>nn (wp_ret (Qah (Qad ?_))));refine fS h k m z z
 refine wp_skip (Qae (Qaa ?_));refine wr (pN 1 k z λa k=>nn (wp_ret (fS h k m z z)))
theorem Qi4 (fu:Nat) {w0:World} (r1:Request) {Ad:List Value} {F3:List Nat} (Af:rd w0 F3 Ad r1) {r:Bool}
    (h:Qfn fu r1=some r) :
    Calls Tryz.prog 48 #[.agg Ad.toArray] w0 λe w=>e=.returned (.bool (r))∧Ext [] w0 w:=by
 refine en (vs:=[_]) func48 z ntmps48 z λa k m=>?_;obtain ⟨v5,F6,v7,F8,v9,Ai,rfl,rfl,Aa,Ab,Ac⟩:=Af;unfold Qfn at h;refine wr (Qbk (cs:=(cR r1 v5 v7 v9)) m k z z z z z z λAl Ah a k m e Ag=>pN 1 k z λa k=>nn (wr (sv k z (rL Qe6 m 0 Ag 0 k z) λa k=>oE h λAj Ae h=>cC k m call14 z (Q35 fu _ (Qag (m.r Aa) (m.r Ab) (m.r Ac)) Ae) λAk e a k m=>?_)));refine pN 2 k z λa k=>nn (wp_ret (fS h k m z z))
theorem Qio (fu:Nat) {w0:World} (Ac:List Int) {v2:Value} {F3:List Nat} (Aa:rd w0 F3 [v2] Ac) {r:(List Int)}
    (h:Qdc fu Ac=some r) :
    Calls Tryz.prog 162 #[v2] w0 λe w=>∃ (v0:Value) (G0:List Nat),e=.returned (v0)∧Ext [] w0 w∧ow w G0 [v0] r∧(∀ b∈G0,w0.heap.size≤b):=by
 refine en (vs:=[_]) func162 z ntmps162 z λa k m=>?_;unfold Qdc at h;refine wr (pN 1 k z λa k=>nn (wp_seq (wr (pN 1 k z λa k=>?_))));obtain ⟨Ad,Af,Ah⟩:=Jg9 Aa;refine sv k z (Ah k underlying49 z z z) λa k=>nn (Jd5 (b:=Ad) k z (λAb=>?_) (λAb=>?_))
 · have Ag:=Af Ab;rw [Ag] at h;have h:some (([]:List Int))=some r:=h;refine wr (pN 1 k z λa k=>nn (wp_ret (Qad ?_)));cases h;exact Qct k z (RV.tmp k z) ⟨_,[],z,m.ext,(Qe1 _),(by simp)⟩
 refine wp_skip (Qaa ?_);refine wr (sB (cs:=[]) (ps:=[]) Qb5 m k z (by exact fN) λAo Ar Ap a k m e Ae=>?_);have Al:=Qa6 Ae ([]:List Int) z z z;refine pN 1 k z λa k=>oE h λAq Aj h=>Qgh Aj Qb5 z m 0 Al (News.rd (m.r Aa)) z z k z z z z z z z λAs Ak Am a k e m Ai=>pN 1 k z λa k=>nn (wp_ret ?_);cases h;exact Qct k z (RV.tmp k z) ⟨_,Ak,z,m.ext,(m.v Ai 0 z),(m.fresh 0 z)⟩
theorem Qtr (fu:Nat) {w0:World} (x1:List Int) {v2:Value} {F3:List Nat} (Aa:ow w0 F3 [v2] x1) {r:List Int}
    (h:Qkg fu x1=some r) :
    Calls Tryz.prog 187 #[v2] w0 λe w=>∃ (v0:Value) (G0:List Nat),e=.returned v0∧Ext F3 w0 w∧ow w G0 [v0] r∧(∀ b∈G0,b∈F3∨w0.heap.size≤b) :=
  Q4m (λblk off cap zs w=>Tryz.slices_Compact_int blk off cap zs w) (λp cap w=>Tryz.slices_Compact_int_empty p cap w) x1 Aa h
theorem Qx1 (fu:Nat) {w0:World} (Ae:List Int) {v2:Value} {F3:List Nat} (Ad:rd w0 F3 [v2] Ae) {r:(List Int)}
    (h:Qkw fu Ae=some r) :
    Calls Tryz.prog 122 #[v2] w0 λe w=>∃ (v0:Value) (G0:List Nat),e=.returned (v0)∧Ext [] w0 w∧ow w G0 [v0] r∧(∀ b∈G0,w0.heap.size≤b):=by
 refine en (vs:=[_]) func122 z ntmps122 z λa k m=>?_;unfold Qkw at h;refine wr (pN 1 k z λa k=>nn (wr (pN 1 k z λa k=>oE h λx5 Ak h=>sC k call162 z (Qio fu _ (m.r Ad) Ak) λe7 w9 hR=>?_)));obtain ⟨Ap,Al,rfl,e,Ac,Ai⟩:=hR;refine ⟨_,z,λa k=>?_⟩;have m:=m.nw e Ai Ac;refine pN 1 k z λa k=>nn (wr (pN 1 k z λa k=>oE h λAv Aj h=>sC k call68 z (Qhp fu _ (m.v Ac 0 z) Aj) λAt Aq hR=>?_));obtain ⟨Ar,rfl,e,Ah,Ab⟩:=hR;refine ⟨_,z,λa k=>?_⟩;have m:=m.mut 0 z e _ (λb hb=>⟨Ah b hb,Enc.rd_lt (Enc.ow_rd Ab) b hb⟩) (Enc.ow_nd Ab);refine nn (wr (pN 1 k z λa k=>oE h λAs Am h=>sC k call187 z (Qtr fu _ (m.v Ab 0 z) Am) λAu Ao hR=>?_));obtain ⟨Aw,Ag,rfl,e,Aa,Af⟩:=hR;refine ⟨_,z,λa k=>?_⟩;have m:=m.mut 0 z e _ (λb hb=>⟨Af b hb,Enc.rd_lt (Enc.ow_rd Aa) b hb⟩) (Enc.ow_nd Aa);refine pN 1 k z λa k=>nn (wp_ret ?_);cases h;exact Qct k z (RV.tmp k z) ⟨_,Ag,z,m.ext,(m.v Aa 0 z),(m.fresh 0 z)⟩
theorem Q1g (fu:Nat) {w0:World} (r1:Request) {Ak:List Value} {F3:List Nat} (Ba:rd w0 F3 Ak r1) {r:(List Int)}
    (h:Qp1 fu r1=some r) :
    Calls Tryz.prog 52 #[.agg Ak.toArray] w0 λe w=>∃ (v0:Value) (G0:List Nat),e=.returned (v0)∧Ext [] w0 w∧ow w G0 [v0] r∧(∀ b∈G0,w0.heap.size≤b):=by
 refine en (vs:=[_]) func52 z ntmps52 z λa k m=>?_;obtain ⟨v5,F6,v7,F8,v9,Bw,rfl,rfl,Ao,Am,Ab⟩:=Ba;unfold Qp1 at h;refine wr (Qbk (cs:=(cR r1 v5 v7 v9)) m k z z z z z z λBv Bz a k m e Ai=>pN 1 k z λa k=>nn (wp_seq (wr (sv k z (rL Qe6 m 0 Ai 0 k z) λa k=>oE h λCa Bd h=>cC k m call48 z (Qi4 fu _ (Qag (m.r Ao) (m.r Am) (m.r Ab)) Bd) λBu e a k m=>?_))));refine pN 1 k z λa k=>nn (cI h k z (λAw h=>?_) λAw h=>?_)
 · refine wr (pN 1 k z λa k=>nn (wp_ret (Qad ?_)));cases h;exact Qct k z (RV.tmp k z) ⟨_,[],z,m.ext,(Qe1 _),(by simp)⟩
 refine wp_skip (Qaa ?_);refine wr (sB (cs:=[]) (ps:=[]) Qb5 m k z (by exact fN) λAj Bh Bl a k m e Be=>?_);have At:=Qa6 Be ([]:List Int) z z z;refine pN 1 k z λa k=>nn (wp_seq (wr (fl Qhf Qvh m 1 Ai k z z λa k=>sv k z (Qa5 (α:=Item) Ab k underlying28 z z) λa k=>pN 1 k z λa k=>nn (wp_block (Qar (λn a w=>∃ (Ad:List Int) (Ah:Value) (Af:List Nat) (Ae:World) (Ac:Int),K 25 [(3,Ah),(11,v9),(12,I (r1.fU.length:Int)),(13,I Ac)] a∧St [] w0 w [(Af,Ae)]∧ow Ae Af [Ah] Ad∧Qg8 fu r1 n Ad Ac=some r) ?_ ?_ fu _ _ ?_)))))
 · rintro a w ⟨_,_,_,_,_,_,_,_,h⟩;exact nS h
 · rintro Bn a Bq ⟨Ad,Ah,Af,Ae,Ac,k,m,Ap,h⟩;rw [Qg8.eq_2] at h;unfold Qlb at h;refine wr (pN 1 k z λa k=>nn (wp_seq (cI h k z (λBj h=>?_) λBj h=>?_)))
   · refine wp_skip (Qaa ?_);refine wp_seq (wp_block (wr (oE h λAa Aq h=>sv k z (Qak Ab Aq k Qzq z z z) λa k=>sv k z (Qjg Ab (m.a00 (Enc.rd_lt Ab)) Aq Q14 k z z) λa k=>Qaq (cs:=[I 0,I 0,I 0,I 0,I 0,I 0,I 0]) m k zeroValue72 z z z z z λBo Bt a k m e Bb=>sT (cs':=[I Aa.qQ,I Aa.fW,I Aa.fH,I Aa.fD,I Aa.fQ,I Aa.fM,I Aa.fO]) sizeOf72 m 0 Bb 0 k z z λBs a k e m Bc=>nn (wp_region_lit (pN 1 k z λa k=>fl Qv2 t13 m 0 Bc k z z λa k=>?_)))));refine sB (cs:=[I Aa.fM]) (ps:=[(0,.tmp 19)]) Qb5 m k z (by exact fC z fN) λBm Br By a k m e As=>?_;have Ay:=Qa6 As ([Aa.fM]:List Int) z z z;refine oE h λAr Bg h=>Qgh Bg Qb5 z m 2 Ap (News.rd (m.q Ay 0 z)) z z k z z z z z z z λAz Av Bf a k e m Au=>pN 1 k z λa k=>wpList_nil (Qae (Qaa ?_));refine wp_region_lit (pN 2 k z λa k=>nn ?_);exact ⟨Ar,Az,Av,Bf,w64 (Ac+1),k.keep [3,11,12,13] z,m.sl [2] z,Au,h⟩
   refine wp_exit (Qaf (Qaf (Qal (Qaa ?_))));refine wr (pN 1 k z λa k=>oE h λCb Bi h=>sC k call122 z (Qx1 fu _ (m.q Ap 0 z) Bi) λBp Bk hR=>?_);obtain ⟨Bx,Al,rfl,e,Ag,Ax⟩:=hR;refine ⟨_,z,λa k=>?_⟩;have m:=m.nw e Ax Ag;refine pN 1 k z λa k=>nn (wp_ret ?_);cases h;exact Qct k z (RV.tmp k z) ⟨_,Al,z,m.ext,(m.v Ag 0 z),(m.fresh 0 z)⟩
 exact ⟨([]:List Int),(.slice (some ⟨Aj,0,none⟩) 0 0),[Aj],Bh,0,k.keep [3,11,12,13] z,m.sl [0] z,At,h⟩
theorem Q3p (fu:Nat) {w0:World} (Ac:List Pair) (a5:Int) (b6:Int) {v2:Value} {F3:List Nat} (Ab:rd w0 F3 [v2] Ac) {r:Bool}
    (h:Qrg fu Ac a5 b6=some r) :
    Calls Tryz.prog 127 #[v2,I a5,I b6] w0 λe w=>e=.returned (.bool (r))∧Ext [] w0 w:=by
 refine en (vs:=[_,_,_]) func127 z ntmps127 z λa k m=>?_;unfold Qrg at h;refine wr (pN 1 k z λa k=>nn (wr (pN 3 k z λa k=>oE h λx7 Ad h=>cC k m call106 z (Qri fu _ _ _ (m.r Ab) Ad) λAf e a k m=>pN 1 k z λa k=>Qam (x7) (λAa=>?_) (λAa=>?_))))
 · have h:=Qa0 Aa h;refine rB k 11 z Aa λk=>pN 3 k z λa k=>oE h λAh Ae h=>cC k m call106 z (Qri fu _ _ _ (m.r Ab) Ae) λAg e a k m=>pN 2 k z λa k=>nn (wp_ret (fS h k m z z))
 have h:=Qaz Aa h;refine rB k 11 z Aa λk=>pN 6 k z λa k=>nn (wp_ret (fS h k m z z))
theorem Qxq (fu:Nat) {w0:World} (x1:Int) (x2:List Pair) (x8:Int) {v5:Value} {F6:List Nat} {b3:Nat} (Ab:bx w0 b3 [v5] 26) (Ac:rd w0 F6 [v5] x2) {b9:Nat} (Aa:bx w0 b9 [I x8] 3) {r:Bool}
    (h:Qkk fu x1 x2 x8=some r) :
    Calls Tryz.prog 126 #[I x1,pt b3,pt b9] w0 λe w=>e=.returned (.bool (r))∧Ext [] w0 w:=by
 refine en (vs:=[_,_,_]) func126 z ntmps126 z λa k m=>?_;unfold Qkk at h;refine wr (pN 1 k z λa k=>nn (wr (sv k z (Qan Q18 (r:=[]) (Ab.at (m.a00 Ab.lt1) 0 1 z z z) k z z) λa k=>sv k z (Qan t13 (r:=[]) (Aa.at (m.a00 Aa.lt1) 0 1 z z z) k z z) λa k=>pN 1 k z λa k=>oE h λAf Ad h=>cC k m call127 z (Q3p fu _ _ _ (m.r Ac) Ad) λAe e a k m=>pN 2 k z λa k=>nn (wp_ret (fS h k m z z)))))
theorem Qpf (fu:Nat) {w0:World} (Ab:List Int) (f5:Int→Option Bool) {v2:Value} {F3:List Nat} (Ac:rd w0 F3 [v2] Ab) {v6:Value} (Ak:Qut Tryz.prog w0 v6 f5) {r:Int}
    (h:Qdo fu Ab f5=some r) :
    Calls Tryz.prog 188 #[v2,v6] w0 λe w=>e=.returned (I r)∧Ext [] w0 w:=by
 refine en (vs:=[_,_]) func188 z ntmps188 z λa k m=>?_;obtain ⟨Ai,Ah,rfl,Ag,Af⟩:=Ak;unfold Qdo at h;refine wr (pN 1 k z λa k=>nn (wp_seq (wr (pN 1 k z λa k=>sv k z (Qa5 (α:=Int) Ac k underlying49 z z) λa k=>pN 1 k z λa k=>nn (wp_block (Qar (λn a w=>∃ (Aa:Int),K 19 [(0,v2),(1,(.func (.func Ai) #[] Ah.toArray)),(7,I (Ab.length:Int)),(8,I Aa)] a∧St [] w0 w []∧Qce fu Ab f5 n Aa=some r) ?_ ?_ fu _ _ ?_))))))
 · rintro a w ⟨_,_,_,h⟩;exact nS h
 · rintro Am a Ar ⟨Aa,k,m,h⟩;rw [Qce.eq_2] at h;unfold Qem at h;refine wr (pN 1 k z λa k=>nn (wp_seq (cI h k z (λAj h=>?_) λAj h=>?_)))
   · refine wp_skip (Qaa ?_);refine wp_seq (wp_block (wr (pN 2 k z λa k=>nn (wr (pN 3 k z λa k=>oE h λAo Ad h=>sv k z (Qak Ac Ad k Qhi z z z) λa k=>sv k z (Qap Ac (m.a00 (Enc.rd_lt Ac)) Ad 0 t13 k z z z z) λa k=>oE h λAs Al h=>Qs3 k Ag z z z z z z (Af _ _ _ _ m.ext z Al) λAp Aq hR=>?_)))));obtain ⟨rfl,e⟩:=hR;refine ⟨_,z,λa k=>?_⟩;have m:=m.step e;refine nn (cI h k z (λAe h=>?_) λAe h=>?_)
     · refine wr (pN 2 k z λa k=>nn (wp_ret (Qah (Qad (Qad (Qah (Qad ?_)))))));refine fS h k m z z
     refine wp_skip (Qae (Qaa ?_));refine wp_region_lit (pN 2 k z λa k=>nn ?_);exact ⟨w64 (Aa+1),k.keep [0,1,7,8] z,m.sl [] z,h⟩
   refine wp_exit (Qaf (Qaf (Qal (Qaa ?_))));refine wr (pN 1 k z λa k=>nn (wp_ret (fS h k m z z)))
 exact ⟨0,k.keep [0,1,7,8] z,m.sl [] z,h⟩
theorem Qms (fu:Nat) {w0:World} (Aa:List Int) (f5:Int→Option Bool) {v2:Value} {F3:List Nat} (Ab:rd w0 F3 [v2] Aa) {v6:Value} (Af:Qut Tryz.prog w0 v6 f5) {r:Bool}
    (h:Qc2 fu Aa f5=some r) :
    Calls Tryz.prog 125 #[v2,v6] w0 λe w=>e=.returned (.bool (r))∧Ext [] w0 w:=by
 refine en (vs:=[_,_]) func125 z ntmps125 z λa k m=>?_;obtain ⟨Al,Aj,rfl,Ae,Ag⟩:=Af;unfold Qc2 at h;refine wr (pN 1 k z λa k=>nn (wr (pN 2 k z λa k=>oE h λAi Ac h=>cC k m call188 z (Qpf fu _ _ (m.r Ab) ⟨_,_,z,Ae,λw Ad Ah r e=>Ag w Ad Ah r (m.ext.trans e (by simp))⟩ Ac) λAk e a k m=>pN 2 k z λa k=>nn (wp_ret (fS h k m z z)))))
theorem Qzu (fu:Nat) {w0:World} (l1:List Int) (x5:List Pair) (Af:Int) {v2:Value} {F3:List Nat} (Ad:rd w0 F3 [v2] l1) {v8:Value} {F9:List Nat} {b6:Nat} (Ae:bx w0 b6 [v8] 26) (Ab:rd w0 F9 [v8] x5) {Aa:Nat} (Ac:bx w0 Aa [I Af] 3) {r:Bool}
    (h:Qoa fu l1 x5 Af=some r) :
    Calls Tryz.prog 124 #[v2,pt b6,pt Aa] w0 λe w=>e=.returned (.bool (r))∧Ext [] w0 w:=by
 refine en (vs:=[_,_,_]) func124 z ntmps124 z λa k m=>?_;unfold Qoa at h;refine wr (pN 1 k z λa k=>nn (wr (pN 2 k z λa k=>oE h λAj Ah h=>cC k m call125 z (Qms fu _ _ (m.r Ad) ⟨126,[pt b6,pt Aa],z,call126,λw Ai Al r e Ag hx=>by subst Ag; have m:=m.step e; exact Qxq fu _ _ _ (Ae.agr (m.a00 Ae.lt1) (by simp)) (m.r Ab) (Ac.agr (m.a00 Ac.lt1) (by simp)) hx⟩ Ah) λAk e a k m=>pN 2 k rfl λa k=>nn (wp_ret (fS h k m rfl rfl)))))
theorem Qnz (fu:Nat) {w0:World} (Aa:List (List Int)) (f5:(List Int)→Option Bool) {v2:Value} {F3:List Nat} (Ab:rd w0 F3 [v2] Aa) {v6:Value} (Ai:Qut Tryz.prog w0 v6 f5) {r:Int}
    (h:Qdf fu Aa f5=some r) :
    Calls Tryz.prog 123 #[v2,v6] w0 λe w=>e=.returned (I r)∧Ext [] w0 w:=by
 refine en (vs:=[_,_]) func123 z ntmps123 z λa k m=>?_;obtain ⟨Aq,Ak,rfl,Ao,Al⟩:=Ai;unfold Qdf at h;refine wr (pN 1 k z λa k=>nn (wp_seq (wr (pN 1 k z λa k=>sv k z (Qa5 (α:=List Int) Ab k underlying46 z z) λa k=>pN 1 k z λa k=>nn (wp_block (Qar (λn a w=>∃ (Ac:Int),K 19 [(0,v2),(1,(.func (.func Aq) #[] Ak.toArray)),(7,I (Aa.length:Int)),(8,I Ac)] a∧St [] w0 w []∧Qb3 fu Aa f5 n Ac=some r) ?_ ?_ fu _ _ ?_))))))
 · rintro a w ⟨_,_,_,h⟩;exact nS h
 · rintro Aw a As ⟨Ac,k,m,h⟩;rw [Qb3.eq_2] at h;unfold Qef at h;refine wr (pN 1 k z λa k=>nn (wp_seq (cI h k z (λAj h=>?_) λAj h=>?_)))
   · refine wp_skip (Qaa ?_);refine wp_seq (wp_block (wr (pN 2 k z λa k=>nn (wr (pN 3 k z λa k=>oE h λAz Ae h=>sv k z (Qak Ab Ae k Qxu z z z) λa k=>?_)))));obtain ⟨Ax,Ah,At,Ad,Af,Am⟩:=Qa2 Ab (Qaj Ae).2.2;obtain ⟨Ay,rfl⟩:∃ v,Ah=[v]:=by obtain ⟨_,_,hq,_⟩:=Ad; exact ⟨_,hq⟩
     refine sv k z (Qan Qso (Af.agr (m.a00 (Enc.rd_lt Ab)) Am) k z z) λa k=>oE h λAr Ag h=>Qs3 k Ao z z z z z z (Al _ _ _ _ m.ext ⟨_,(m.r Ad)⟩ Ag) λAv Au hR=>?_;obtain ⟨rfl,e⟩:=hR;refine ⟨_,z,λa k=>?_⟩;have m:=m.step e;refine nn (cI h k z (λAp h=>?_) λAp h=>?_)
     · refine wr (pN 2 k z λa k=>nn (wp_ret (Qah (Qad (Qad (Qah (Qad ?_)))))));refine fS h k m z z
     refine wp_skip (Qae (Qaa ?_));refine wp_region_lit (pN 2 k z λa k=>nn ?_);exact ⟨w64 (Ac+1),k.keep [0,1,7,8] z,m.sl [] z,h⟩
   refine wp_exit (Qaf (Qaf (Qal (Qaa ?_))));refine wr (pN 1 k z λa k=>nn (wp_ret (fS h k m z z)))
 exact ⟨0,k.keep [0,1,7,8] z,m.sl [] z,h⟩
theorem Q3u (fu:Nat) {w0:World} (Aq:List Pair) (Bf:List Int) {v2:Value} {F3:List Nat} (Ay:rd w0 F3 [v2] Aq) {v6:Value} {F7:List Nat} (Bd:rd w0 F7 [v6] Bf) {r:(List (List Int))}
    (h:Qrf fu Aq Bf=some r) :
    Calls Tryz.prog 51 #[v2,v6] w0 λe w=>∃ (v0:Value) (G0:List Nat),e=.returned (v0)∧Ext [] w0 w∧ow w G0 [v0] r∧(∀ b∈G0,w0.heap.size≤b):=by
 refine en (vs:=[_,_]) func51 z ntmps51 z λa k m=>?_;unfold Qrf at h;refine wr (Qbk (cs:=[v2]) m k z z z z z (Qoh Ay) λb9 Ao a k m e Dj=>pN 1 k z λa k=>nn (wr (sB (cs:=[]) (ps:=[]) Qyy m k z (by exact fN) λBb Dk Er a k m e Dr=>?_)));have Cj:=Qss (α:=List Int) Dr;refine pN 1 k z λa k=>nn (wp_seq (wr (pN 1 k z λa k=>oE h λAm By h=>sC k call122 z (Qx1 fu _ (m.r Bd) By) λGd As hR=>?_)));obtain ⟨Ba,Ai,rfl,e,Ah,Dd⟩:=hR;refine ⟨_,z,λa k=>?_⟩;have m:=m.nw e Dd Ah;refine sv k z (Qa5 (α:=Int) (Enc.ow_rd Ah) k underlying49 z z) λa k=>pN 1 k z λa k=>nn (wp_block (Qar (λn a w=>∃ (Ag:List (List Int)) (Af:Value) (Ab:List Nat) (Al:World) (Ae:Int),K 42 [(2,pt b9),(5,Af),(11,Ba),(12,I (Am.length:Int)),(13,I Ae)] a∧St [] w0 w [([b9],Ao),(Ai,As),(Ab,Al)]∧ow Al Ab [Af] Ag∧Qfd fu Aq Am n Ag Ae=some r) ?_ ?_ fu _ _ ?_))
 · rintro a w ⟨_,_,_,_,_,_,_,_,h⟩;exact nS h
 · rintro Ch a Gh ⟨Ag,Af,Ab,Al,Ae,k,m,Aa,h⟩;rw [Qfd.eq_2] at h;unfold Qnj at h;refine wr (pN 1 k z λa k=>nn (wp_seq (cI h k z (λDi h=>?_) λDi h=>?_)))
   · refine wp_skip (Qaa ?_);refine Qcw (λa w=>∃ (Ak:List (List Int)) (Ap:Value) (Ar:List Nat) (At:World),K 42 [(2,pt b9),(5,Ap),(11,Ba),(12,I (Am.length:Int)),(13,I Ae)] a∧St [] w0 w [([b9],Ao),(Ai,As),(Ar,At)]∧ow At Ar [Ap] Ak∧Qit fu (Qfd fu Aq Am Ch) Ae Ak=some r) ?_ ?_
     · rintro a Eh ⟨Ak,Ap,Ar,At,k,m,Bu,h⟩;unfold Qit at h;refine wp_region_lit (pN 2 k z λa k=>nn ?_);exact ⟨Ak,Ap,Ar,At,w64 (Ae+1),k.keep [2,5,11,12,13] z,m.sl [0,1,2] z,Bu,h⟩
     refine wp_block (wr (oE h λAd Bl h=>sv k z (Qak (Enc.ow_rd Ah) Bl k Qhi z z z) λa k=>sv k z (Qap (Enc.ow_rd Ah) (m.a 1 z) Bl 0 t13 k z z z z) λa k=>Qaq (cs:=[I 0]) m k zeroValue3 z z z z z λAu Fw a k m e Ct=>sT (cs':=[I Ad]) sizeOf3 m 0 Ct 0 k z z λAz a k e m Aj=>nn (wp_seq (wr (sv k z (Qoy t13 m 0 Aj 0 k z z z z z) λa k=>oE h λGg Dp h=>cC k m call56 z (Qbp fu _ _ _  Dp) λFt e a k m=>pN 1 k z λa k=>nn (cI h k z (λDe h=>?_) λDe h=>?_))))))
     · refine wp_exit (Qaf (Qal (Qaa ?_)));exact ⟨Ag,Af,Ab,Al,k.keep [2,5,11,12,13] z,m.sl [1,2,3] z,Aa,h⟩
     refine wp_skip (Qaa ?_);refine wr (pN 2 k z λa k=>oE h λBg Cd h=>cC k m call123 z (Qnz fu _ _ (m.q Aa 3 z) ⟨124,[pt b9,pt Au],z,call124,λw Fr Fa r e Av hx=>by obtain ⟨_,Av⟩:=Av; have m:=m.step e; exact Qzu fu _ _ _ Av (m.y Dj 1 z) (m.r Ay) (m.y Aj 0 z) hx⟩ Cd) λFz e a k m=>pN 1 k z λa k=>nn (wr (pN 2 k z λa k=>nn (cI h k z (λDq h=>?_) λDq h=>?_))))
     · refine wp_region_lit (pN 1 k z λa k=>sv k z (Qoy t13 m 0 Aj 0 k z z z z z) λa k=>sB (cs:=[I Ad]) (ps:=[(0,.tmp 26)]) Qb5 m k z (by exact fC z fN) λBh Ga Fb a k m e Br=>?_);have Bk:=Qa6 Br ([Ad]:List Int) z z z;refine sB (cs:=[(.slice (some ⟨Bh,0,none⟩) 1 1)]) (ps:=[(0,.tmp 27)]) Qyy m k z (by exact (List.forall_mem_cons.2 ⟨congrArg Array.size (Qoh (Enc.ow_rd Bk)),fN⟩)) λGb Ff Gi a k m e Cz=>oE h λCb Co h=>?_;have Ce:=Enc.ow_agr Bk (m.a 1 z);have Dx:=News.box Cz (m.a 0 z) (by simp) (m:=1);have Bp:=m.a 5 z;have m:=m.sl [5,1,0,2,3,4] z;have m:=m.join2;refine Qjj (F:=Ab) (G:=[Bh]) Co Qyy z m Aa Bp Dx Ce (Agr.refl _ _) k z z z z z z λBm Cm Cu a k e m Ck=>pN 1 k z λa k=>wpList_nil (Qae (Qaa ?_));exact ⟨Cb,Bm,Cm,Cu,k.keep [2,5,11,12,13] z,m.sl [3,4,0] z,Ck,h⟩
     refine Qiq (Ab) Qie m z λEb hMd=>?_;have m:=hMd;have s:=Ext.refl ((Ab):List Nat) Eb;refine dM [0,1,2,3] 4 z k z s λa k=>oE h λEz Ac h=>dT k 4 z z s (λw s=>Qak (Enc.ow_rd Aa) Ac k Qxu z z z) λa k=>?_;obtain ⟨Fe,Cn,Eo,Dg,Eu,Gc⟩:=Qa2 (Enc.ow_rd Aa) (Qaj Ac).2.2;obtain ⟨Fu,rfl⟩:∃ v,Cn=[v]:=by obtain ⟨_,_,hq,_⟩:=Dg; exact ⟨_,hq⟩
     refine dT k 6 z z s (λw s=>Qan t13 (r:=[]) (Aj.at (hMd.az 0 3 z z z s) 0 1 z z z) k z z) λa k=>?_;obtain ⟨Fq,Dv,Ev,Cg,Et,Fp⟩:=Qa2 (Enc.ow_rd Aa) (Qaj Ac).2.2;obtain ⟨Ey,rfl⟩:∃ v,Dv=[v]:=by obtain ⟨_,_,hq,_⟩:=Cg; exact ⟨_,hq⟩
     refine Qir 5 7 (by kernel_rfl) z z ?_ ?_ 
     · obtain ⟨Ep,Ed,Fx,Bz,Bi,Cv⟩:=Qa2 (Enc.ow_rd Aa) (Qaj Ac).2.2;obtain ⟨Fs,rfl⟩:∃ v,Ed=[v]:=by obtain ⟨_,_,hq,_⟩:=Bz; exact ⟨_,hq⟩
       refine sv k z (Qan Qso (Bi.agr (m.a 3 z) Cv) k z z) λa k=>wpList_nil ⟨s,?_⟩;refine dO 7 z (Qdb (cs:=[I Ad]) (ps:=[(0,.tmp 36)]) Qb5 m k z z z z z z z (by decide) z (by exact fC z fN) λCp Bw Fd a k m e Dl Dt=>?_);have Ge:=lo1 (Nat.le_trans s.size Dt);have Cs:=Qa6 Dl ([Ad]:List Int) z z z;refine ns s e λs=>?_;refine dO 8 z ?_;obtain ⟨Fy,Fv,m,Bo,Ca,Dy,Bj⟩:=m.opnS 4 z Aa Ac Bi z (M':=[([Cp],Bw),([Au],Az),([b9],Ao),(Ai,As)]) z;refine oE h λCi Db h=>Qa8 Db Qb5 z m 1 Ca (News.rd (m.q Cs 2 z)) z z k z z z z z z z λEa Cf Gf a k e m Aw Cc=>?_;have Ej:∀ y∈Cf,y∈(Ab)∨_≤y:=λy hy=>(Cc y hy).elim (λhy=>(λy hy=>(λy hy=>Or.inl hy) y (Bj y hy)) y hy) (λh=>Or.inr (Nat.le_trans s.size h));have s:=s.trans e (λy hy=>(λy hy=>Or.inl hy) y (Bj y hy));refine wpList_nil ⟨s,?_⟩;refine oE h λEw Eg h=>dT k 9 z z s (λw s=>Qak (Enc.ow_rd Aa) Ac k Qxu z z z) λa k=>dO 10 z (Qts (α:=List Int) (sz:=1) (cs':=[Ea]) sizeOf49 m 0 Bo 0 k (Qoh (Enc.ow_rd Aw)) (Qf7 (Enc.ow_rd Aw)) z z z z z z z z z z λBs a k e m Dw=>?_)
       obtain ⟨Dz,m,Do⟩:=(m.sl [0,1,2,3,4,5] z).cls Dw Aw;have s:=s.trans e (λy hy=>(λy hy=>Or.inl hy) y (Dy y hy));refine wpList_nil ⟨s,?_⟩;refine dD ?_;have k:=k.keep [2,11,12,5,13] z;refine (Qae (Qaa ?_));exact ⟨Qe5 Ag Bg Ci,Af,Dz,Bs,k.keep [2,5,11,12,13] z,m.sl [3,4,0] z,Do,h⟩
     refine Qdb (cs:=[I Ad]) (ps:=[(0,.tmp 36)]) Qb5 m k z z z z z z z (by decide) z (by exact fC z fN) λEe Cx Em a k m e Bv Cr=>?_;have Ek:=lo1 (Nat.le_trans s.size Cr);have Cq:=Qa6 Bv ([Ad]:List Int) z z z;refine ns s e λs=>?_;obtain ⟨Ex,Cy,Fl,Dc,Ei,En⟩:=Qa2 (Enc.ow_rd Aa) (Qaj Ac).2.2;obtain ⟨Fn,rfl⟩:∃ v,Cy=[v]:=by obtain ⟨_,_,hq,_⟩:=Dc; exact ⟨_,hq⟩
     refine dO 5 z ?_;obtain ⟨Es,Da,Fk,Ef,Be,Cl⟩:=Qa2 (Enc.ow_rd Aa) (Qaj Ac).2.2;obtain ⟨Fg,rfl⟩:∃ v,Da=[v]:=by obtain ⟨_,_,hq,_⟩:=Ef; exact ⟨_,hq⟩
     refine sv k z (Qan Qso (Be.agr (m.a 4 z) Cl) k z z) λa k=>wpList_nil ⟨s,?_⟩;refine dO 8 z ?_;obtain ⟨Fi,Fm,m,Bt,Ec,Bq,Bc⟩:=m.opnS 4 z Aa Ac Be z (M':=[([Ee],Cx),([Au],Az),([b9],Ao),(Ai,As)]) z;refine oE h λBx Dn h=>Qa8 Dn Qb5 z m 1 Ec (News.rd (m.q Cq 2 z)) z z k z z z z z z z λDm Dh El a k e m Ax Ds=>?_;have Fc:∀ y∈Dh,y∈(Ab)∨_≤y:=λy hy=>(Ds y hy).elim (λhy=>(λy hy=>(λy hy=>Or.inl hy) y (Bc y hy)) y hy) (λh=>Or.inr (Nat.le_trans s.size h));have s:=s.trans e (λy hy=>(λy hy=>Or.inl hy) y (Bc y hy));refine wpList_nil ⟨s,?_⟩;refine oE h λFj Fh h=>dT k 9 z z s (λw s=>Qak (Enc.ow_rd Aa) Ac k Qxu z z z) λa k=>dO 10 z (Qts (α:=List Int) (sz:=1) (cs':=[Dm]) sizeOf49 m 0 Bt 0 k (Qoh (Enc.ow_rd Ax)) (Qf7 (Enc.ow_rd Ax)) z z z z z z z z z z λBn a k e m Df=>?_);obtain ⟨Du,m,Cw⟩:=(m.sl [0,1,2,3,4,5] z).cls Df Ax;have s:=s.trans e (λy hy=>(λy hy=>Or.inl hy) y (Bq y hy));refine wpList_nil ⟨s,?_⟩;refine dD ?_;have k:=k.keep [2,11,12,5,13] z;refine (Qae (Qaa ?_))
     exact ⟨Qe5 Ag Bg Bx,Af,Du,Bn,k.keep [2,5,11,12,13] z,m.sl [3,4,0] z,Cw,h⟩
   refine wp_exit (Qaf (Qaf (Qal (Qaa ?_))));refine wr (pN 2 k z λa k=>nn (wp_ret ?_));cases h;exact Qct k z (RV.tmp k z) ⟨_,Ab,z,m.ext,(m.v Aa 2 z),(m.fresh 2 z)⟩
 exact ⟨([]:List (List Int)),(.slice (some ⟨Bb,0,none⟩) 0 0),[Bb],Dk,0,k.keep [2,5,11,12,13] z,m.sl [2,0,1] z,Cj,h⟩
theorem Qq1 (fu:Nat) {w0:World} (r1:Request) {Ai:List Value} {F3:List Nat} (Ao:rd w0 F3 Ai r1) {r:(List (List Int))}
    (h:Qhe fu r1=some r) :
    Calls Tryz.prog 17 #[.agg Ai.toArray] w0 λe w=>∃ (v0:Value) (G0:List Nat),e=.returned (v0)∧Ext [] w0 w∧ow w G0 [v0] r∧(∀ b∈G0,w0.heap.size≤b):=by
 refine en (vs:=[_]) func17 z ntmps17 z λa k m=>?_;obtain ⟨v5,F6,v7,F8,v9,Bb,rfl,rfl,Aa,Ab,Ac⟩:=Ao;unfold Qhe at h;refine wr (Qbk (cs:=(cR r1 v5 v7 v9)) m k z z z z z z λBa Bd a k m e Ad=>pN 1 k z λa k=>nn (wp_seq (wr (sv k z (rL Qe6 m 0 Ad 0 k z) λa k=>oE h λBe Aq h=>cC k m call48 z (Qi4 fu _ (Qag (m.r Aa) (m.r Ab) (m.r Ac)) Aq) λAx e a k m=>?_))));refine pN 1 k z λa k=>nn (cI h k z (λAl h=>?_) λAl h=>?_)
 · refine wr (pN 1 k z λa k=>nn (wp_ret (Qad ?_)));cases h;exact Qct k z (RV.tmp k z) ⟨_,[],z,m.ext,(Qe1 _),(by simp)⟩
 refine wp_skip (Qaa ?_);refine wp_seq (Qiq [] Qie m z λAm hMd=>?_);have m:=hMd;have s:=Ext.refl ([]:List Nat) Am;refine dF k 0 Qn9 z s λa k=>dT k 1 z z s (λw s=>Qan Q18 (r:=[]) (Ad.at ((hMd.step s).a 0 z) 6 1 z z z) k z z) λa k=>dT k 2 z z s (λw s=>Qdr Qe6 (Ad.at ((hMd.step s).a 0 z) 0 10 z z z) z k z z) λa k=>dO 3 z (oE h λAy Ar h=>?_);refine sC k call52 z (Q1g fu _ (Qag (m.r Aa) (m.r Ab) (m.r Ac)) Ar) λAs Az hR=>?_;obtain ⟨Bg,Ak,rfl,e,Ae,Ah⟩:=hR;refine ⟨_,z,λa k=>?_⟩;have m:=m.nw e Ah Ae;have Av:=λ(y:Nat) (hy:y∈Ak)=>Nat.le_trans s.size (Ah y hy);refine ns s e λs=>?_;refine dO 4 z (oE h λAu Ap h=>sC k call51 z (Q3u fu _ _ (m.r Aa) (m.q Ae 0 z) Ap) λBc At hR=>?_);obtain ⟨Bf,Ag,rfl,e,Af,Aj⟩:=hR;refine ⟨_,z,λa k=>?_⟩;have m:=m.nw e Aj Af;have Aw:=λ(y:Nat) (hy:y∈Ag)=>Nat.le_trans s.size (Aj y hy);refine ns s e λs=>?_;refine dM [5] 1 z k z s λa k=>dD ((Qaa ?_));refine wp_ret ?_;cases h;exact Qct k z (RV.tmp k z) ⟨_,Ag,z,m.ext,(m.v Af 0 z),(m.fresh 0 z)⟩
end Go.Proofs.YtpcmapfabndggaaGreat
