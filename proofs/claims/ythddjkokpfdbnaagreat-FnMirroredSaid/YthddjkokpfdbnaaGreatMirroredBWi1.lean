/- FnMirrored: the walk.. -/
import Derived.Test.YthddjkokpfdbnaaGreatMirroredBT
set_option maxRecDepth 20000
set_option linter.unusedSimpArgs false
set_option linter.unusedVariables false
set_option linter.unnecessarySimpa false
namespace Go.Proofs.YthddjkokpfdbnaaGreat
open Go Go.RowKit
open Enc (rd ow)
open Arg (argv)
open Ret (retv)
open Go.Proofs.Tryz
theorem Qwq (fu:Nat) {w0:World} (b1:Box) (Aa:Spot) (x3:Request) {v6:Value} {F7:List Nat} {v9:Value} {Ag:List Nat} {Ac:Value} {Ah:List Nat} {b4:Nat} (Ad:bx w0 b4 (cR x3 v6 v9 Ac) 30) (Au:rd w0 F7 [v6] x3.fL) (Aq:rd w0 Ag [v9] x3.fT) (At:rd w0 Ah [Ac] x3.fG) {r:Spot}
    (h:Qo7 fu b1 Aa x3 = some r) :
    Calls Tryz.prog 114 #[.agg (Flat.e (b1)).toArray,.agg (Flat.e (Aa)).toArray,pt b4] w0 fun e w=>e = .returned (.agg (Flat.e r).toArray) ∧ Ext [] w0 w:=by
 refine en (vs:=[_,_,_]) func114 z ntmps114 z fun a k m=>?_;unfold Qo7 at h;refine wr (Qa1 (cs:=[I b1.fW,I b1.fD,I b1.fH,I b1.fV]) m k z z z z z z fun As Ao a k m e Ai=>Qa1 (cs:=[I Aa.fQ,I Aa.fX,I Aa.fY,I Aa.fZ]) m k z z z z z z fun Av Ar a k m e Ab=>Qan (cs:=[I 0,I 0,I 0,I 0]) m k zeroValue59 z z z z z fun Am Al a k m e Ae=>nn (wr (sv k z (Qg7 Qqy k z z) fun a k=>sv k z (Qg7 Qug k z z) fun a k=>sv k z (Qam t13 (r:=[]) (Ad.at (m.a00 Ad.lt1) 1 1 z z z) k z z) fun a k=>fl Qso t13 m 1 Ab k z z fun a k=>pN 1 k z fun a k=>sv k z (Qg7 Qqn k z z) fun a k=>?_)));refine sv k z (Qqk t13 m 2 Ai 0 k z z z z z) fun a k=>pN 1 k z fun a k=>sv k z (Qg7 Qso k z z) fun a k=>sT (cs':=[I Aa.fQ,I (w64 ((w64 (x3.fQ.fW - Aa.fX)) - b1.fW)),I Aa.fY,I Aa.fZ]) sizeOf3 m 1 Ab 1 k z z fun Ak a k e m Af=>nn (wr (sv k z (rL Qx6 m 1 Af 0 k z) fun a k=>sT (cs':=[I Aa.fQ,I (w64 ((w64 (x3.fQ.fW - Aa.fX)) - b1.fW)),I Aa.fY,I Aa.fZ]) sizeOf59 m 0 Ae 0 k z z fun Ap a k e m Aj=>nn (wp_ret ?_)));cases h
 exact Qb9 k z (RV.cA k z Qx6 (Aj.at (m.a 0 z) 0 4 z z z) z) ⟨z,m.ext⟩
theorem Qms (fu:Nat) {w0:World} (Ab:List Int) {v2:Value} {F3:List Nat} (Aa:rd w0 F3 [v2] Ab) {r:(List Int)}
    (h:Qcq fu Ab = some r) :
    Calls Tryz.prog 156 #[v2] w0 fun e w=>∃ (v0:Value) (G0:List Nat),e = .returned (v0) ∧ Ext [] w0 w ∧ ow w G0 [v0] r ∧ (∀ b ∈ G0,w0.heap.size ≤ b):=by
 refine en (vs:=[_]) func156 z ntmps156 z fun a k m=>?_;unfold Qcq at h;refine wr (pN 1 k z fun a k=>nn (wp_seq (wr (pN 1 k z fun a k=>?_))));obtain ⟨Al,Ak,Ag⟩:=Jce Aa;refine sv k z (Ag k underlying37 z z z) fun a k=>nn (Q9t (b:=Al) k z (fun Ac=>?_) (fun Ac=>?_))
 · have Af:=Ak Ac;rw [Af] at h;have h:some (([]:List Int)) = some r:=h;refine wr (pN 1 k z fun a k=>nn (wp_ret (Qad ?_)));cases h;exact Qb9 k z (RV.tmp k z) ⟨_,[],z,m.ext,(Qib _),(by simp)⟩
 refine wp_skip (Qaa ?_);refine wr (sB (cs:=[]) (ps:=[]) Qb6 m k z (by exact fN) fun Am As Ao a k m e Ae=>?_);have Ah:=Qa6 Ae ([]:List Int) z z z;refine pN 1 k z fun a k=>oE h fun Ap Aj h=>Qfq Aj Qb6 z m 0 Ah (News.rd (m.r Aa)) z z k z z z z z z z fun Aq Ai Ar a k e m Ad=>pN 1 k z fun a k=>nn (wp_ret ?_);cases h;exact Qb9 k z (RV.tmp k z) ⟨_,Ai,z,m.ext,(m.v Ad 0 z),(m.fresh 0 z)⟩
theorem Qvp (fu:Nat) {w0:World} (Af:List Carton) {v2:Value} {F3:List Nat} (Ae:rd w0 F3 [v2] Af) {r:(List Carton)}
    (h:Qhq fu Af = some r) :
    Calls Tryz.prog 198 #[v2] w0 fun e w=>∃ (v0:Value) (G0:List Nat),e = .returned (v0) ∧ Ext [] w0 w ∧ ow w G0 [v0] r ∧ (∀ b ∈ G0,w0.heap.size ≤ b):=by
 refine en (vs:=[_]) func198 z ntmps198 z fun a k m=>?_;unfold Qhq at h;refine wr (pN 1 k z fun a k=>nn (wr (sB (cs:=[]) (ps:=[]) Qzp m k z (by exact fN) fun g5 w6 e8 a k m e Ax=>?_)));have Ba:=Qua (α:=Carton) Ax;refine pN 1 k z fun a k=>nn (wp_seq (wr (pN 1 k z fun a k=>sv k z (Qaw (α:=Carton) Ae k underlying49 z z) fun a k=>pN 1 k z fun a k=>nn (wp_block (Qap (fun n a w=>∃ (Ai:List Carton) (Ah:Value) (Ab:List Nat) (Aj:World) (Ad:Int),K 23 [(3,Ah),(7,v2),(8,I (Af.length:Int)),(9,I Ad)] a ∧ St [] w0 w [(Ab,Aj)] ∧ ow Aj Ab [Ah] Ai ∧ Qdk fu Af n Ai Ad = some r) ?_ ?_ fu _ _ ?_)))))
 · rintro a w ⟨_,_,_,_,_,_,_,_,h⟩;exact nS h
 · rintro Bt a Bx ⟨Ai,Ah,Ab,Aj,Ad,k,m,Ap,h⟩;rw [Qdk.eq_2] at h;unfold Qgx at h;refine wr (pN 1 k z fun a k=>nn (wp_seq (cI h k z (fun Bh h=>?_) fun Bh h=>?_)))
   · refine wp_skip (Qaa ?_);refine wp_seq (wp_block (wr (oE h fun Aa Ao h=>sv k z (Qaj Ae Ao k Qs3 z z z) fun a k=>?_)));obtain ⟨Bm,Bo,Bz,Bk,Bf,As⟩:=Qbm Ae (Qar Ao).2.2;obtain ⟨Ay,_,rfl,rfl,Ag⟩:=Bk;refine sv k z (Qbp Qwc (Bf.agr (m.a00 (Enc.rd_lt Ae)) As) z k z z) fun a k=>Qan (cs:=[I 0,I 0,.slice none 0 0]) m k zeroValue66 z z z z z fun Bs Bn a k m e Az=>sT (cs':=[I Aa.fO,I Aa.fE,Ay]) sizeOf66 m 0 Az 0 k z (Qa7 z (Qa7 z (Qa7 (Qcw Ag) Qpd))) fun Bp a k e m Am=>nn (wr (fl Qiq Qr7 m 0 Am k z z fun a k=>oE h fun Bg Bd h=>sC k call156 z (Qms fu _ (m.r Ag) Bd) fun Br By hR=>?_));obtain ⟨Al,Ak,rfl,e,Ac,Bc⟩:=hR;refine ⟨_,z,fun a k=>?_⟩;have m:=m.nw e Bc Ac
     refine sv k z (Qg7 Qiq k z z) fun a k=>Qfy (cs':=[I Aa.fO,I Aa.fE,Al]) sizeOf37 m 1 Am 2 k (Qok (Enc.ow_rd Ac)) (Qcw (Enc.ow_rd Ac)) z z z z z z z z z fun Bu a k e m Bj=>nn (wp_region_lit (pN 1 k z fun a k=>sv k z (rL Qwc m 1 Bj 0 k z) fun a k=>sB (cs:=[I Aa.fO,I Aa.fE,Al]) (ps:=[(0,.tmp 18)]) Qzp m k z (by exact fC z fN) fun Bw Bq Bv a k m e Ar=>oE h fun Au Av h=>?_));have Aq:ow _ (Ak) [I Aa.fO,I Aa.fE,Al] ((⟨Aa.fO,Aa.fE,Bg⟩:Carton):Carton):=⟨_,_,z,z,(m.v Ac 1 z),by simpa [fps] using (m.sl [1] z).nd⟩
     have Bb:=News.box Ar (m.a 0 z) (by simp) (m:=1);have Bl:=m.a 3 z;have m:=m.sl [3,1,0,2] z;have m:=m.join2;refine Qno (F:=Ab) (G:=(Ak)) Av Qzp z m Ap Bl Bb Aq (Agr.refl _ _) k z z z z z z fun Bi At Be a k e m Aw=>pN 1 k z fun a k=>wpList_nil (Qae (Qaa ?_));refine wp_region_lit (pN 2 k z fun a k=>nn ?_);exact ⟨Au,Bi,At,Be,w64 (Ad + 1),k.keep [3,7,8,9] z,m.sl [0] z,Aw,h⟩
   refine wp_exit (Qag (Qag (Qal (Qaa ?_))));refine wr (pN 2 k z fun a k=>nn (wp_ret ?_));cases h;exact Qb9 k z (RV.tmp k z) ⟨_,Ab,z,m.ext,(m.v Ap 0 z),(m.fresh 0 z)⟩
 exact ⟨([]:List Carton),(.slice (some ⟨g5,0,none⟩) 0 0),[g5],w6,0,k.keep [3,7,8,9] z,m.sl [0] z,Ba,h⟩
theorem Qqx (fu:Nat) {w0:World} (Ab:List Spot) {v2:Value} {F3:List Nat} (Aa:rd w0 F3 [v2] Ab) {r:(List Spot)}
    (h:Qc9 fu Ab = some r) :
    Calls Tryz.prog 199 #[v2] w0 fun e w=>∃ (v0:Value) (G0:List Nat),e = .returned (v0) ∧ Ext [] w0 w ∧ ow w G0 [v0] r ∧ (∀ b ∈ G0,w0.heap.size ≤ b):=by
 refine en (vs:=[_]) func199 z ntmps199 z fun a k m=>?_;unfold Qc9 at h;refine wr (pN 1 k z fun a k=>nn (wp_seq (wr (pN 1 k z fun a k=>?_))));obtain ⟨Al,Ak,Ag⟩:=Jce Aa;refine sv k z (Ag k underlying50 z z z) fun a k=>nn (Q9t (b:=Al) k z (fun Ac=>?_) (fun Ac=>?_))
 · have Af:=Ak Ac;rw [Af] at h;have h:some (([]:List Spot)) = some r:=h;refine wr (pN 1 k z fun a k=>nn (wp_ret (Qad ?_)));cases h;exact Qb9 k z (RV.tmp k z) ⟨_,[],z,m.ext,(Qib _),(by simp)⟩
 refine wp_skip (Qaa ?_);refine wr (sB (cs:=[]) (ps:=[]) Q2y m k z (by exact fN) fun Am As Ao a k m e Ae=>?_);have Ah:=Qa6 Ae ([]:List Spot) z z z;refine pN 1 k z fun a k=>oE h fun Ap Aj h=>Qfq Aj Q2y z m 0 Ah (News.rd (m.r Aa)) z z k z z z z z z z fun Aq Ai Ar a k e m Ad=>pN 1 k z fun a k=>nn (wp_ret ?_);cases h;exact Qb9 k z (RV.tmp k z) ⟨_,Ai,z,m.ext,(m.v Ad 0 z),(m.fresh 0 z)⟩
theorem Qxv (fu:Nat) {w0:World} (x1:Plan) {Ag:List Value} {F3:List Nat} (As:rd w0 F3 Ag x1) {r:Plan}
    (h:Ql6 fu x1 = some r) :
    Calls Tryz.prog 120 #[.agg Ag.toArray] w0 fun e w=>∃ (Ah:List Value) (G0:List Nat),e = .returned (.agg Ah.toArray) ∧ Ext [] w0 w ∧ ow w G0 Ah r ∧ (∀ b ∈ G0,w0.heap.size ≤ b):=by
 refine en (vs:=[_]) func120 z ntmps120 z fun a k m=>?_;obtain ⟨v5,F6,v7,F8,rfl,rfl,Aj,Al⟩:=As;unfold Ql6 at h;refine wr (Qa1 (cs:=[v5,v7]) m k z z z z z z fun Be Av a k m e Ae=>Qan (cs:=[.slice none 0 0,.slice none 0 0]) m k zeroValue52 z z z z z fun Am Bg a k m e At=>nn (wp_seq (Qg4 ([Am]) Qgt m z fun Aq hMd=>?_)));have m:=hMd;have s:=Ext.refl (([Am]):List Nat) Aq;refine dF k 0 Qbn z s fun a k=>dT k 1 z z s (fun w s=>Qam Qme (r:=[]) (Ae.at (hMd.az 1 0 z z z s) 0 1 z z z) k z z) fun a k=>dF k 3 Qcy z s fun a k=>dT k 4 z z s (fun w s=>Qam Qs5 (r:=[]) (Ae.at (hMd.az 1 0 z z z s) 1 1 z z z) k z z) fun a k=>dO 2 z (oE h fun Aw Au h=>sC k call198 z (Qvp fu _ (m.r Aj) Au) fun Ay Ax hR=>?_);obtain ⟨Ai,Ad,rfl,e,Ab,Af⟩:=hR;refine ⟨_,z,fun a k=>?_⟩;have m:=m.nw e Af Ab;have Ba:=fun (y:Nat) (hy:y ∈ Ad)=>Nat.le_trans s.size (Af y hy);refine ns s e fun s=>?_;refine dO 5 z (oE h fun Bd Ap h=>sC k call199 z (Qqx fu _ (m.r Al) Ap) fun Bb Az hR=>?_);obtain ⟨Ak,Ac,rfl,e,Aa,Ao⟩:=hR;refine ⟨_,z,fun a k=>?_⟩
 have m:=m.nw e Ao Aa;have Bf:=fun (y:Nat) (hy:y ∈ Ac)=>Nat.le_trans s.size (Ao y hy);refine ns s e fun s=>?_;refine dT k 6 z z s (fun w s=>Qba Jf4 k (cs:=#[Ai,Ak]) (ps:=[(0,.tmp 5),(1,.tmp 8)]) z z (Qg6 z (Qok (Enc.ow_rd Ab)) z (Qg6 z (Qok (Enc.ow_rd Aa)) z z))) fun a k=>dO 7 z (sT (cs':=[Ai,Ak]) sizeOf52 m 2 At 0 k z (Qa7 (Qcw (Enc.ow_rd Ab)) (Qa7 (Qcw (Enc.ow_rd Aa)) Qpd)) fun Bc a k e m Ar=>?_);have s:=s.trans e (fun y hy=>Or.inl hy);refine wpList_nil ⟨s,?_⟩;refine dD ((Qaa ?_));refine wp_ret ?_;cases h;exact Qb9 k z (RV.cA k z Qmr (Ar.at (m.a 2 z) 0 2 z z z) z) ⟨_,_,z,m.ext,⟨_,Ad,_,Ac,z,z,(m.v Ab 1 z),(m.v Aa 0 z),by simpa [fps] using (m.sl [1,0] z).nd⟩,(Qbt (m.fresh 1 z) (m.fresh 0 z))⟩
theorem Qwz (fu:Nat) {w0:World} (t1:Typ) (x2:Int) {b3:Nat} (Aa:bx w0 b3 [I x2] 3) {r:Bool}
    (h:Qon fu t1 x2 = some r) :
    Calls Tryz.prog 258 #[.agg (Flat.e (t1)).toArray,pt b3] w0 fun e w=>e = .returned (.bool (r)) ∧ Ext [] w0 w:=by
 refine en (vs:=[_,_]) func258 z ntmps258 z fun a k m=>?_;unfold Qon at h;refine wr (Qa1 (cs:=[I t1.f8,I t1.fW,I t1.fH,I t1.fD,I t1.f7,I t1.fV,I t1.fK]) m k z z z z z z fun b5 w7 a k m e Ab=>pN 1 k z fun a k=>nn (wr (fl Qsv t13 m 0 Ab k z z fun a k=>sv k z (Qam t13 (r:=[]) (Aa.at (m.a00 Aa.lt1) 0 1 z z z) k z z) fun a k=>pN 2 k z fun a k=>nn (wp_ret (fS h k m z z)))))
theorem Qgu (fu:Nat) {w0:World} (Aa:List Typ) (f5:Typ → Option Bool) {v2:Value} {F3:List Nat} (Ac:rd w0 F3 [v2] Aa) {v6:Value} (Ag:Qzm Tryz.prog w0 v6 f5) {r:Int}
    (h:Qbg fu Aa f5 = some r) :
    Calls Tryz.prog 216 #[v2,v6] w0 fun e w=>e = .returned (I r) ∧ Ext [] w0 w:=by
 refine en (vs:=[_,_]) func216 z ntmps216 z fun a k m=>?_;obtain ⟨Aj,Ak,rfl,Af,Ae⟩:=Ag;unfold Qbg at h;refine wr (pN 1 k z fun a k=>nn (wp_seq (wr (pN 1 k z fun a k=>sv k z (Qaw (α:=Typ) Ac k underlying27 z z) fun a k=>pN 1 k z fun a k=>nn (wp_block (Qap (fun n a w=>∃ (Ab:Int),K 19 [(0,v2),(1,(.func (.func Aj) #[] Ak.toArray)),(7,I (Aa.length:Int)),(8,I Ab)] a ∧ St [] w0 w [] ∧ Qa5 fu Aa f5 n Ab = some r) ?_ ?_ fu _ _ ?_))))))
 · rintro a w ⟨_,_,_,h⟩;exact nS h
 · rintro Ap a Am ⟨Ab,k,m,h⟩;rw [Qa5.eq_2] at h;unfold Qb3 at h;refine wr (pN 1 k z fun a k=>nn (wp_seq (cI h k z (fun Ah h=>?_) fun Ah h=>?_)))
   · refine wp_skip (Qaa ?_);refine wp_seq (wp_block (wr (pN 2 k z fun a k=>nn (wr (pN 3 k z fun a k=>oE h fun As Ad h=>sv k z (Qaj Ac Ad k Q2u z z z) fun a k=>sv k z (Qic Ac (m.a00 (Enc.rd_lt Ac)) Ad Qtp k z z) fun a k=>oE h fun Aq Ai h=>Qum k Af z z z z z z (Ae _ _ _ _ m.ext z Ai) fun Ar Ao hR=>?_)))));obtain ⟨rfl,e⟩:=hR;refine ⟨_,z,fun a k=>?_⟩;have m:=m.step e;refine nn (cI h k z (fun Al h=>?_) fun Al h=>?_)
     · refine wr (pN 2 k z fun a k=>nn (wp_ret (Qaf (Qad (Qad (Qaf (Qad ?_)))))));refine fS h k m z z
     refine wp_skip (Qae (Qaa ?_));refine wp_region_lit (pN 2 k z fun a k=>nn ?_);exact ⟨w64 (Ab + 1),k.keep [0,1,7,8] z,m.sl [] z,h⟩
   refine wp_exit (Qag (Qag (Qal (Qaa ?_))));refine wr (pN 1 k z fun a k=>nn (wp_ret (fS h k m z z)))
 exact ⟨0,k.keep [0,1,7,8] z,m.sl [] z,h⟩
theorem Qrr (fu:Nat) {w0:World} (r1:Request) (Ac:Int) {Ad:List Value} {F3:List Nat} (Am:rd w0 F3 Ad r1) {r:Typ × Bool}
    (h:Qgq fu r1 Ac = some r) :
    Calls Tryz.prog 200 #[.agg Ad.toArray,I Ac] w0 fun e w=>e = .returned (.tuple #[.agg (Flat.e r.1).toArray,.bool (r.2)]) ∧ Ext [] w0 w:=by
 refine en (vs:=[_,_]) func200 z ntmps200 z fun a k m=>?_;obtain ⟨v6,F7,v8,F9,Ao,Ar,rfl,rfl,Au,Ab,Ay⟩:=Am;unfold Qgq at h;refine wr (Qa1 (cs:=(cR r1 v6 v8 Ao)) m k z z z z z z fun Ba Aw a k m e Af=>Qa1 (cs:=[I Ac]) m k z z z z z z fun Aq Az a k m e Ah=>Qan (cs:=[I 0,I 0,I 0,I 0,I 0,I 0,I 0]) m k zeroValue76 z z z z z fun At As a k m e Ae=>pN 1 k z fun a k=>nn (wr (fl Qec Qus m 2 Af k z z fun a k=>pN 1 k z fun a k=>oE h fun Av Ap h=>?_)));refine cC k m call216 z (Qgu fu _ _ (m.r Ab) ⟨258,[pt Aq],z,call258,fun w Bb Be r e Ak hx=>by subst Ak; have m:=m.step e; exact Qwz fu _ _ (Ah.agr (m.a 1 rfl) (by simp)) hx⟩ Ap) fun Ax e a k m=>pN 1 k rfl fun a k=>nn (wp_seq (wr (pN 2 k rfl fun a k=>nn (cI h k rfl (fun Ai h=>?_) fun Ai h=>?_))))
 · refine wr (sv k z (Qba Q5b k (cs:=#[I 0,I 0,I 0,I 0,I 0,I 0,I 0]) (ps:=[]) z z (by kernel_rfl)) fun a k=>sT (cs':=[I 0,I 0,I 0,I 0,I 0,I 0,I 0]) sizeOf76 m 0 Ae 0 k z z fun Bc a k e m Al=>pN 1 k z fun a k=>nn (wp_ret (Qad ?_)));cases h;exact Qtw k z (RV.cA k z Qtp (Al.at (m.a 0 z) 0 7 z z z) z) (RV.tmp k z) ⟨z,m.ext⟩
 refine wp_skip (Qaa ?_);refine wr (fl Qec Qus m 2 Af k z z fun a k=>pN 1 k z fun a k=>oE h fun Aa Ag h=>sv k z (Qaj Ab Ag k Q2u z z z) fun a k=>sv k z (Qic Ab (m.a00 (Enc.rd_lt Ab)) Ag Qtp k z z) fun a k=>sT (cs':=[I Aa.f8,I Aa.fW,I Aa.fH,I Aa.fD,I Aa.f7,I Aa.fV,I Aa.fK]) sizeOf76 m 0 Ae 0 k z z fun Bd a k e m Aj=>pN 1 k z fun a k=>nn (wp_ret ?_));cases h;exact Qtw k z (RV.cA k z Qtp (Aj.at (m.a 0 z) 0 7 z z z) z) (RV.tmp k z) ⟨z,m.ext⟩
theorem Qup (fu:Nat) {w0:World} (r1:Request) {Ad:List Value} {F3:List Nat} (Aj:rd w0 F3 Ad r1) {r:Typ × Bool}
    (h:Qj1 fu r1 = some r) :
    Calls Tryz.prog 125 #[.agg Ad.toArray] w0 fun e w=>e = .returned (.tuple #[.agg (Flat.e r.1).toArray,.bool (r.2)]) ∧ Ext [] w0 w:=by
 refine en (vs:=[_]) func125 z ntmps125 z fun a k m=>?_;obtain ⟨v5,F6,v7,F8,v9,Ar,rfl,rfl,Ac,Ab,Ae⟩:=Aj;unfold Qj1 at h;refine wr (Qa1 (cs:=(cR r1 v5 v7 v9)) m k z z z z z z fun Ap Aq a k m e Af=>Qan (cs:=[I 0,I 0,I 0,I 0,I 0,I 0,I 0]) m k zeroValue76 z z z z z fun Ao Am a k m e Ai=>pN 1 k z fun a k=>nn (wr (sv k z (rL Qdu m 1 Af 0 k z) fun a k=>fl Q3j t13 m 1 Af k z z fun a k=>oE h fun Aa Ag h=>?_)));refine cC k m call200 z (Qrr fu _ _ (Qah (m.r Ac) (m.r Ab) (m.r Ae)) Ag) fun Al e a k m=>pN 2 k z fun a k=>sT (cs':=[I Aa.1.f8,I Aa.1.fW,I Aa.1.fH,I Aa.1.fD,I Aa.1.f7,I Aa.1.fV,I Aa.1.fK]) sizeOf76 m 0 Ai 0 k z z fun Ak a k e m Ah=>pN 1 k z fun a k=>nn (wp_ret ?_);cases h;exact Qtw k z (RV.cA k z Qtp (Ah.at (m.a 0 z) 0 7 z z z) z) (RV.tmp k z) ⟨z,m.ext⟩
theorem Qcp (fu:Nat) {w0:World} (n1:Int) (Ab:Int) (Ac:Int)  {r:Bool}
    (h:Qcc fu n1 Ab Ac = some r) :
    Calls Tryz.prog 135 #[I n1,I Ab,I Ac] w0 fun e w=>e = .returned (.bool (r)) ∧ Ext [] w0 w:=by
 refine en (vs:=[_,_,_]) func135 z ntmps135 z fun a k m=>?_;unfold Qcc at h;refine wr (pN 1 k z fun a k=>nn (wr (pN 4 k z fun a k=>Qak (decide (n1 ≥ Ab)) (fun Aa=>?_) (fun Aa=>?_))))
 · have h:=Qas Aa h;refine rB k 10 z Aa fun k=>pN 5 k z fun a k=>nn (wp_ret (fS h k m z z))
 have h:=Qat Aa h;refine rB k 10 z Aa fun k=>pN 5 k z fun a k=>nn (wp_ret (fS h k m z z))
theorem Qer (fu:Nat) {w0:World} (n1:Int)  {r:Bool}
    (h:Qcs fu n1 = some r) :
    Calls Tryz.prog 261 #[I n1] w0 fun e w=>e = .returned (.bool (r)) ∧ Ext [] w0 w:=by
 refine en (vs:=[_]) func261 z ntmps261 z fun a k m=>?_;unfold Qcs at h;refine wr (pN 1 k z fun a k=>nn (wr (pN 1 k z fun a k=>oE h fun x2 Aa h=>cC k m call135 z (Qcp fu _ _ _  Aa) fun w5 e a k m=>pN 1 k z fun a k=>nn (wp_ret (fS h k m z z)))))
theorem Qyt (fu:Nat) {w0:World} (x1:Pallet)  {r:Bool}
    (h:Qoc fu x1 = some r) :
    Calls Tryz.prog 205 #[.agg (Flat.e (x1)).toArray] w0 fun e w=>e = .returned (.bool (r)) ∧ Ext [] w0 w:=by
 refine en (vs:=[_]) func205 z ntmps205 z fun a k m=>?_;unfold Qoc at h;refine wr (Qa1 (cs:=[I x1.fW,I x1.fD,I x1.fH,I x1.fV]) m k z z z z z z fun b2 w4 a k m e Ad=>pN 1 k z fun a k=>nn (wr (fl Qug t13 m 0 Ad k z z fun a k=>oE h fun x5 Ag h=>cC k m call261 z (Qer fu _  Ag) fun w9 e a k m=>pN 1 k z fun a k=>Qak (x5) (fun Ab=>?_) (fun Ab=>?_))))
 · have h:=Qas Ab h;refine rB k 6 z Ab fun k=>fl Qul t13 m 0 Ad k z z fun a k=>oE h fun Aj Ae h=>cC k m call261 z (Qer fu _  Ae) fun Am e a k m=>pN 2 k z fun a k=>Qak (Aj) (fun Ac=>?_) (fun Ac=>?_)
   · have h:=Qas Ac h;refine rB k 11 z Ac fun k=>fl Qv1 t13 m 0 Ad k z z fun a k=>oE h fun Ai Ah h=>cC k m call261 z (Qer fu _  Ah) fun Ao e a k m=>pN 2 k z fun a k=>Qak (Ai) (fun Aa=>?_) (fun Aa=>?_)
     · have h:=Qas Aa h;refine rB k 16 z Aa fun k=>fl Qt0 t13 m 0 Ad k z z fun a k=>oE h fun Al Af h=>cC k m call135 z (Qcp fu _ _ _  Af) fun Ak e a k m=>pN 2 k z fun a k=>nn (wp_ret (fS h k m z z))
     have h:=Qat Aa h;refine rB k 16 z Aa fun k=>pN 5 k z fun a k=>nn (wp_ret (fS h k m z z))
   have h:=Qat Ac h;refine rB k 11 z Ac fun k=>pN 10 k z fun a k=>nn (wp_ret (fS h k m z z))
 have h:=Qat Ab h;refine rB k 6 z Ab fun k=>pN 15 k z fun a k=>nn (wp_ret (fS h k m z z))
theorem Qo8 (fu:Nat) {w0:World} (Aa:List Pair) (f5:Pair → Option Bool) {v2:Value} {F3:List Nat} (Ac:rd w0 F3 [v2] Aa) {v6:Value} (Ag:Qzm Tryz.prog w0 v6 f5) {r:Int}
    (h:Qby fu Aa f5 = some r) :
    Calls Tryz.prog 262 #[v2,v6] w0 fun e w=>e = .returned (I r) ∧ Ext [] w0 w:=by
 refine en (vs:=[_,_]) func262 z ntmps262 z fun a k m=>?_;obtain ⟨Aj,Ak,rfl,Af,Ae⟩:=Ag;unfold Qby at h;refine wr (pN 1 k z fun a k=>nn (wp_seq (wr (pN 1 k z fun a k=>sv k z (Qaw (α:=Pair) Ac k underlying26 z z) fun a k=>pN 1 k z fun a k=>nn (wp_block (Qap (fun n a w=>∃ (Ab:Int),K 19 [(0,v2),(1,(.func (.func Aj) #[] Ak.toArray)),(7,I (Aa.length:Int)),(8,I Ab)] a ∧ St [] w0 w [] ∧ Qa4 fu Aa f5 n Ab = some r) ?_ ?_ fu _ _ ?_))))))
 · rintro a w ⟨_,_,_,h⟩;exact nS h
 · rintro Ap a Am ⟨Ab,k,m,h⟩;rw [Qa4.eq_2] at h;unfold Qb4 at h;refine wr (pN 1 k z fun a k=>nn (wp_seq (cI h k z (fun Ah h=>?_) fun Ah h=>?_)))
   · refine wp_skip (Qaa ?_);refine wp_seq (wp_block (wr (pN 2 k z fun a k=>nn (wr (pN 3 k z fun a k=>oE h fun As Ad h=>sv k z (Qaj Ac Ad k Ja5 z z z) fun a k=>sv k z (Qic Ac (m.a00 (Enc.rd_lt Ac)) Ad Jbd k z z) fun a k=>oE h fun Aq Ai h=>Qum k Af z z z z z z (Ae _ _ _ _ m.ext z Ai) fun Ar Ao hR=>?_)))));obtain ⟨rfl,e⟩:=hR;refine ⟨_,z,fun a k=>?_⟩;have m:=m.step e;refine nn (cI h k z (fun Al h=>?_) fun Al h=>?_)
     · refine wr (pN 2 k z fun a k=>nn (wp_ret (Qaf (Qad (Qad (Qaf (Qad ?_)))))));refine fS h k m z z
     refine wp_skip (Qae (Qaa ?_));refine wp_region_lit (pN 2 k z fun a k=>nn ?_);exact ⟨w64 (Ab + 1),k.keep [0,1,7,8] z,m.sl [] z,h⟩
   refine wp_exit (Qag (Qag (Qal (Qaa ?_))));refine wr (pN 1 k z fun a k=>nn (wp_ret (fS h k m z z)))
 exact ⟨0,k.keep [0,1,7,8] z,m.sl [] z,h⟩
theorem Qf7 (fu:Nat) {w0:World} (Aa:List Pair) (f5:Pair → Option Bool) {v2:Value} {F3:List Nat} (Ab:rd w0 F3 [v2] Aa) {v6:Value} (Ae:Qzm Tryz.prog w0 v6 f5) {r:Bool}
    (h:Qa2 fu Aa f5 = some r) :
    Calls Tryz.prog 206 #[v2,v6] w0 fun e w=>e = .returned (.bool (r)) ∧ Ext [] w0 w:=by
 refine en (vs:=[_,_]) func206 z ntmps206 z fun a k m=>?_;obtain ⟨Ak,Al,rfl,Ad,Ac⟩:=Ae;unfold Qa2 at h;refine wr (pN 1 k z fun a k=>nn (wr (pN 2 k z fun a k=>oE h fun Ai Ag h=>cC k m call262 z (Qo8 fu _ _ (m.r Ab) ⟨_,_,z,Ad,fun w Ah Af r e=>Ac w Ah Af r (m.ext.trans e (by simp))⟩ Ag) fun Aj e a k m=>pN 2 k z fun a k=>nn (wp_ret (fS h k m z z)))))
theorem Qwr (fu:Nat) {w0:World} (p1:Pair)  {r:Bool}
    (h:Qjx fu p1 = some r) :
    Calls Tryz.prog 207 #[.agg (Flat.e (p1)).toArray] w0 fun e w=>e = .returned (.bool (r)) ∧ Ext [] w0 w:=by
 refine en (vs:=[_]) func207 z ntmps207 z fun a k m=>?_;unfold Qjx at h;refine wr (Qa1 (cs:=[I p1.fA,I p1.fB]) m k z z z z z z fun b2 w4 a k m e Ab=>pN 1 k z fun a k=>nn (wr (fl Qx9 t13 m 0 Ab k z z fun a k=>oE h fun x5 Ad h=>cC k m call135 z (Qcp fu _ _ _  Ad) fun w9 e a k m=>pN 2 k z fun a k=>Qak (!x5) (fun Aa=>?_) (fun Aa=>?_))))
 · have h:=Qas Aa h;refine rB k 7 z Aa fun k=>pN 6 k z fun a k=>nn (wp_ret (fS h k m z z))
 have h:=Qat Aa h;refine rB k 7 z Aa fun k=>fl Qyq t13 m 0 Ab k z z fun a k=>oE h fun Af Ac h=>cC k m call135 z (Qcp fu _ _ _  Ac) fun Ae e a k m=>pN 3 k z fun a k=>nn (wp_ret (fS h k m z z))
theorem Qdj (fu:Nat) {w0:World} (Aa:List Typ) (f5:Typ → Option Bool) {v2:Value} {F3:List Nat} (Ab:rd w0 F3 [v2] Aa) {v6:Value} (Ae:Qzm Tryz.prog w0 v6 f5) {r:Bool}
    (h:Qay fu Aa f5 = some r) :
    Calls Tryz.prog 132 #[v2,v6] w0 fun e w=>e = .returned (.bool (r)) ∧ Ext [] w0 w:=by
 refine en (vs:=[_,_]) func132 z ntmps132 z fun a k m=>?_;obtain ⟨Ak,Al,rfl,Ad,Ac⟩:=Ae;unfold Qay at h;refine wr (pN 1 k z fun a k=>nn (wr (pN 2 k z fun a k=>oE h fun Ai Ag h=>cC k m call216 z (Qgu fu _ _ (m.r Ab) ⟨_,_,z,Ad,fun w Ah Af r e=>Ac w Ah Af r (m.ext.trans e (by simp))⟩ Ag) fun Aj e a k m=>pN 2 k z fun a k=>nn (wp_ret (fS h k m z z)))))
theorem Q2q (fu:Nat) {w0:World} (x1:Typ)  {r:Bool}
    (h:Qr0 fu x1 = some r) :
    Calls Tryz.prog 209 #[.agg (Flat.e (x1)).toArray] w0 fun e w=>e = .returned (.bool (r)) ∧ Ext [] w0 w:=by
 refine en (vs:=[_]) func209 z ntmps209 z fun a k m=>?_;unfold Qr0 at h;refine wr (Qa1 (cs:=[I x1.f8,I x1.fW,I x1.fH,I x1.fD,I x1.f7,I x1.fV,I x1.fK]) m k z z z z z z fun b2 w4 a k m e Aa=>pN 1 k z fun a k=>nn (wr (fl Qsv t13 m 0 Aa k z z fun a k=>oE h fun x5 Ar h=>cC k m call135 z (Qcp fu _ _ _  Ar) fun w9 e a k m=>pN 1 k z fun a k=>Qak (x5) (fun Ag=>?_) (fun Ag=>?_))))
 · have h:=Qas Ag h;refine rB k 6 z Ag fun k=>fl Quo t13 m 0 Aa k z z fun a k=>oE h fun At Am h=>cC k m call261 z (Qer fu _  Am) fun Aw e a k m=>pN 2 k z fun a k=>Qak (At) (fun Ae=>?_) (fun Ae=>?_)
   · have h:=Qas Ae h;refine rB k 11 z Ae fun k=>fl Qt1 t13 m 0 Aa k z z fun a k=>oE h fun Ak Aj h=>cC k m call261 z (Qer fu _  Aj) fun Ax e a k m=>pN 2 k z fun a k=>Qak (Ak) (fun Af=>?_) (fun Af=>?_)
     · have h:=Qas Af h;refine rB k 16 z Af fun k=>fl Quf t13 m 0 Aa k z z fun a k=>oE h fun Ah Ai h=>cC k m call261 z (Qer fu _  Ai) fun Au e a k m=>pN 2 k z fun a k=>Qak (Ah) (fun Ac=>?_) (fun Ac=>?_)
       · have h:=Qas Ac h;refine rB k 21 z Ac fun k=>fl Q0z t13 m 0 Aa k z z fun a k=>oE h fun Ao Al h=>cC k m call135 z (Qcp fu _ _ _  Al) fun Az e a k m=>pN 2 k z fun a k=>Qak (Ao) (fun Ab=>?_) (fun Ab=>?_)
         · have h:=Qas Ab h;refine rB k 26 z Ab fun k=>fl Qu5 t13 m 0 Aa k z z fun a k=>oE h fun Ap As h=>cC k m call135 z (Qcp fu _ _ _  As) fun Ay e a k m=>pN 2 k z fun a k=>Qak (Ap) (fun Ad=>?_) (fun Ad=>?_)
           · have h:=Qas Ad h;refine rB k 31 z Ad fun k=>fl Qu4 t13 m 0 Aa k z z fun a k=>oE h fun Av Aq h=>cC k m call135 z (Qcp fu _ _ _  Aq) fun Ba e a k m=>pN 2 k z fun a k=>?_;have k:=k.keep [2] z;refine nn (wp_ret (fS h k m z z))
           have h:=Qat Ad h;refine rB k 31 z Ad fun k=>pN 5 k z fun a k=>?_;have k:=k.keep [2] z;refine nn (wp_ret (fS h k m z z))
         have h:=Qat Ab h;refine rB k 26 z Ab fun k=>pN 10 k z fun a k=>?_;have k:=k.keep [2] z;refine nn (wp_ret (fS h k m z z))
       have h:=Qat Ac h;refine rB k 21 z Ac fun k=>pN 15 k z fun a k=>?_;have k:=k.keep [2] z;refine nn (wp_ret (fS h k m z z))
     have h:=Qat Af h;refine rB k 16 z Af fun k=>pN 20 k z fun a k=>?_;have k:=k.keep [2] z;refine nn (wp_ret (fS h k m z z))
   have h:=Qat Ae h;refine rB k 11 z Ae fun k=>pN 25 k z fun a k=>?_;have k:=k.keep [2] z;refine nn (wp_ret (fS h k m z z))
 have h:=Qat Ag h;refine rB k 6 z Ag fun k=>pN 30 k z fun a k=>?_;have k:=k.keep [2] z;refine nn (wp_ret (fS h k m z z))
theorem Qwo (fu:Nat) {w0:World} (t1:Typ)  {r:Bool}
    (h:Qkb fu t1 = some r) :
    Calls Tryz.prog 208 #[.agg (Flat.e (t1)).toArray] w0 fun e w=>e = .returned (.bool (r)) ∧ Ext [] w0 w:=by
 refine en (vs:=[_]) func208 z ntmps208 z fun a k m=>?_;unfold Qkb at h;refine wr (Qa1 (cs:=[I t1.f8,I t1.fW,I t1.fH,I t1.fD,I t1.f7,I t1.fV,I t1.fK]) m k z z z z z z fun b2 w4 a k m e Ab=>pN 1 k z fun a k=>nn (wr (sv k z (rL Qtp m 0 Ab 0 k z) fun a k=>oE h fun x5 Aa h=>cC k m call209 z (Q2q fu (t1:Typ)  Aa) fun w9 e a k m=>pN 2 k z fun a k=>nn (wp_ret (fS h k m z z)))))
theorem Q1n (fu:Nat) {w0:World} (x1:Item)  {r:Bool}
    (h:Qq3 fu x1 = some r) :
    Calls Tryz.prog 210 #[.agg (Flat.e (x1)).toArray] w0 fun e w=>e = .returned (.bool (r)) ∧ Ext [] w0 w:=by
 refine en (vs:=[_]) func210 z ntmps210 z fun a k m=>?_;unfold Qq3 at h;refine wr (Qa1 (cs:=[I x1.f8,I x1.fW,I x1.fH,I x1.fD,I x1.fV,I x1.fF,I x1.f0]) m k z z z z z z fun b2 w4 a k m e Aa=>pN 1 k z fun a k=>nn (wr (fl Q03 t13 m 0 Aa k z z fun a k=>oE h fun x5 Ar h=>cC k m call135 z (Qcp fu _ _ _  Ar) fun w9 e a k m=>pN 1 k z fun a k=>Qak (x5) (fun Ag=>?_) (fun Ag=>?_))))
 · have h:=Qas Ag h;refine rB k 6 z Ag fun k=>fl Qyd t13 m 0 Aa k z z fun a k=>oE h fun At Am h=>cC k m call261 z (Qer fu _  Am) fun Aw e a k m=>pN 2 k z fun a k=>Qak (At) (fun Ae=>?_) (fun Ae=>?_)
   · have h:=Qas Ae h;refine rB k 11 z Ae fun k=>fl Qyz t13 m 0 Aa k z z fun a k=>oE h fun Ak Aj h=>cC k m call261 z (Qer fu _  Aj) fun Ax e a k m=>pN 2 k z fun a k=>Qak (Ak) (fun Af=>?_) (fun Af=>?_)
     · have h:=Qas Af h;refine rB k 16 z Af fun k=>fl Qxd t13 m 0 Aa k z z fun a k=>oE h fun Ah Ai h=>cC k m call261 z (Qer fu _  Ai) fun Au e a k m=>pN 2 k z fun a k=>Qak (Ah) (fun Ac=>?_) (fun Ac=>?_)
       · have h:=Qas Ac h;refine rB k 21 z Ac fun k=>fl Qw3 t13 m 0 Aa k z z fun a k=>oE h fun Ao Al h=>cC k m call135 z (Qcp fu _ _ _  Al) fun Az e a k m=>pN 2 k z fun a k=>Qak (Ao) (fun Ab=>?_) (fun Ab=>?_)
         · have h:=Qas Ab h;refine rB k 26 z Ab fun k=>fl Qv6 t13 m 0 Aa k z z fun a k=>oE h fun Ap As h=>cC k m call135 z (Qcp fu _ _ _  As) fun Ay e a k m=>pN 2 k z fun a k=>Qak (Ap) (fun Ad=>?_) (fun Ad=>?_)
           · have h:=Qas Ad h;refine rB k 31 z Ad fun k=>fl Qxj t13 m 0 Aa k z z fun a k=>oE h fun Av Aq h=>cC k m call135 z (Qcp fu _ _ _  Aq) fun Ba e a k m=>pN 2 k z fun a k=>?_;have k:=k.keep [2] z;refine nn (wp_ret (fS h k m z z))
           have h:=Qat Ad h;refine rB k 31 z Ad fun k=>pN 5 k z fun a k=>?_;have k:=k.keep [2] z;refine nn (wp_ret (fS h k m z z))
         have h:=Qat Ab h;refine rB k 26 z Ab fun k=>pN 10 k z fun a k=>?_;have k:=k.keep [2] z;refine nn (wp_ret (fS h k m z z))
       have h:=Qat Ac h;refine rB k 21 z Ac fun k=>pN 15 k z fun a k=>?_;have k:=k.keep [2] z;refine nn (wp_ret (fS h k m z z))
     have h:=Qat Af h;refine rB k 16 z Af fun k=>pN 20 k z fun a k=>?_;have k:=k.keep [2] z;refine nn (wp_ret (fS h k m z z))
   have h:=Qat Ae h;refine rB k 11 z Ae fun k=>pN 25 k z fun a k=>?_;have k:=k.keep [2] z;refine nn (wp_ret (fS h k m z z))
 have h:=Qat Ag h;refine rB k 6 z Ag fun k=>pN 30 k z fun a k=>?_;have k:=k.keep [2] z;refine nn (wp_ret (fS h k m z z))
theorem Qye (fu:Nat) {w0:World} (r1:Request) {Ap:List Value} {F3:List Nat} (Bj:rd w0 F3 Ap r1) {r:Bool}
    (h:Qoe fu r1 = some r) :
    Calls Tryz.prog 126 #[.agg Ap.toArray] w0 fun e w=>e = .returned (.bool (r)) ∧ Ext [] w0 w:=by
 refine en (vs:=[_]) func126 z ntmps126 z fun a k m=>?_;obtain ⟨v5,F6,v7,F8,v9,Cd,rfl,rfl,Ao,Am,Ae⟩:=Bj;unfold Qoe at h;refine wr (Qa1 (cs:=(cR r1 v5 v7 v9)) m k z z z z z z fun Ak As a k m e Aa=>pN 1 k z fun a k=>nn (Qce (fun a w=>K 70 [(1,pt Ak)] a ∧ St [] w0 w [([Ak],As)] ∧ Qnm fu r1 = some r) ?_ ?_))
 · rintro a Bs ⟨k,m,h⟩;unfold Qnm at h;refine wp_seq (wr (fl Qn2 Q02 m 0 Aa k z z fun a k=>oE h fun Bz Bo h=>cC k m call206 z (Qf7 fu _ _ (m.r Ao) ⟨207,[],z,call207,fun w Bt Bw r e Bb hx=>by subst Bb; have m:=m.step e; exact Qwr fu _  hx⟩ Bo) fun Ck e a k m=>nn (cI h k rfl (fun Be h=>?_) fun Be h=>?_)))
   · refine wr (pN 1 k z fun a k=>nn (wp_ret (Qad ?_)));refine fS h k m z z
   refine wp_skip (Qaa ?_);refine Qce (fun a w=>K 70 [(1,pt Ak)] a ∧ St [] w0 w [([Ak],As)] ∧ Qnk fu r1 = some r) ?_ ?_
   · rintro a Br ⟨k,m,h⟩;unfold Qnk at h;refine wr (pN 1 k z fun a k=>nn (wp_seq (wr (fl Qgw Qvf m 0 Aa k z z fun a k=>sv k z (Qaw (α:=Item) Ae k underlying28 z z) fun a k=>pN 1 k z fun a k=>nn (wp_block (Qap (fun n a w=>∃ (Aj:Int) (Al:Int),K 70 [(3,I Aj),(54,v9),(55,I (r1.fG.length:Int)),(56,I Al)] a ∧ St [] w0 w [] ∧ Qej fu r1 n Aj Al = some r) ?_ ?_ fu _ _ ?_))))))
     · rintro a w ⟨_,_,_,_,h⟩;exact nS h
     · rintro Ca a Bv ⟨Aj,Al,k,m,h⟩;rw [Qej.eq_2] at h;unfold Qi2 at h;refine wr (pN 1 k z fun a k=>nn (wp_seq (cI h k z (fun Bg h=>?_) fun Bg h=>?_)))
       · refine wp_skip (Qaa ?_);refine wp_seq (wp_block (wr (oE h fun Ab Aq h=>sv k z (Qaj Ae Aq k Qzs z z z) fun a k=>sv k z (Qic Ae (m.a00 (Enc.rd_lt Ae)) Aq Q06 k z z) fun a k=>Qan (cs:=[I 0,I 0,I 0,I 0,I 0,I 0,I 0]) m k zeroValue83 z z z z z fun Cf Cg a k m e Ax=>sT (cs':=[I Ab.f8,I Ab.fW,I Ab.fH,I Ab.fD,I Ab.fV,I Ab.fF,I Ab.f0]) sizeOf83 m 0 Ax 0 k z z fun Ch a k e m Ar=>nn (wp_seq (wr (sv k z (rL Q06 m 0 Ar 0 k z) fun a k=>oE h fun Cb Az h=>cC k m call210 z (Q1n fu (Ab:Item)  Az) fun Bu e a k m=>?_))))));refine pN 1 k z fun a k=>nn (cI h k z (fun Au h=>?_) fun Au h=>?_)
         · refine wr (pN 1 k z fun a k=>nn (wp_ret (Qad (Qaf (Qad (Qad (Qaf (Qad ?_))))))));refine fS h k m z z
         refine wp_skip (Qaa ?_);refine wp_region_lit (pN 1 k z fun a k=>fl Qxj t13 m 0 Ar k z z fun a k=>pN 2 k z fun a k=>wpList_nil (Qae (Qaa ?_)));refine wp_region_lit (pN 2 k z fun a k=>nn ?_);exact ⟨w64 (Aj + Ab.f0),w64 (Al + 1),k.keep [3,54,55,56] z,m.sl [] z,h⟩
       refine wp_exit (Qag (Qag (Qal (Qaa ?_))));refine wr (pN 3 k z fun a k=>nn (wp_ret (fS h k m z z)))
     exact ⟨0,0,k.keep [3,54,55,56] z,m.sl [] z,h⟩
   refine wr (fl Qec Qus m 0 Aa k z z fun a k=>sv k z (Qaw (α:=Typ) Am k underlying27 z z) fun a k=>oE h fun Ba Bd h=>cC k m call135 z (Qcp fu _ _ _  Bd) fun Bq e a k m=>pN 2 k z fun a k=>Qak (!Ba) (fun Ag=>?_) (fun Ag=>?_))
   · have h:=Qas Ag h;refine rB k 36 z Ag fun k=>pN 16 k z fun a k=>?_;have k:=k.keep [1,52] z;refine nn (wp_cond_true (k.ev z) (wr (pN 1 k z fun a k=>nn (wp_ret (Qad ?_)))));refine fS h k m z z
   have h:=Qat Ag h;refine rB k 36 z Ag fun k=>fl Qec Qus m 0 Aa k z z fun a k=>oE h fun Av Bl h=>cC k m call132 z (Qdj fu _ _ (m.r Am) ⟨208,[],z,call208,fun w Cj Bx r e Bh hx=>by subst Bh; have m:=m.step e; exact Qwo fu _  hx⟩ Bl) fun By e a k m=>pN 2 k rfl fun a k=>Qak (Av) (fun Ac=>?_) (fun Ac=>?_)
   · have h:=Qas Ac h;refine rB k 41 z Ac fun k=>pN 11 k z fun a k=>?_;have k:=k.keep [1,52] z;refine nn (wp_cond_true (k.ev z) (wr (pN 1 k z fun a k=>nn (wp_ret (Qad ?_)))));refine fS h k m z z
   have h:=Qat Ac h;refine rB k 41 z Ac fun k=>fl Q3j t13 m 0 Aa k z z fun a k=>oE h fun Bn Bk h=>cC k m call135 z (Qcp fu _ _ _  Bk) fun Ci e a k m=>pN 3 k z fun a k=>Qak (!Bn) (fun Ah=>?_) (fun Ah=>?_)
   · have h:=Qas Ah h;refine rB k 47 z Ah fun k=>pN 5 k z fun a k=>?_;have k:=k.keep [1,52] z;refine nn (wp_cond_true (k.ev z) (wr (pN 1 k z fun a k=>nn (wp_ret (Qad ?_)))));refine fS h k m z z
   have h:=Qat Ah h;refine rB k 47 z Ah fun k=>fl Qgw Qvf m 0 Aa k z z fun a k=>sv k z (Qaw (α:=Item) Ae k underlying28 z z) fun a k=>pN 2 k z fun a k=>?_;have k:=k.keep [1,52] z;refine nn (cI h k z (fun Ay h=>?_) fun Ay h=>?_)
   · refine wr (pN 1 k z fun a k=>nn (wp_ret (Qad ?_)));refine fS h k m z z
   refine wp_skip (Qaa ?_);exact ⟨k.keep [1] z,m.sl [0] z,h⟩
 refine wr (fl Q40 t13 m 0 Aa k z z fun a k=>oE h fun Aw Bc h=>cC k m call135 z (Qcp fu _ _ _  Bc) fun Cc e a k m=>pN 2 k z fun a k=>Qak (!Aw) (fun Af=>?_) (fun Af=>?_))
 · have h:=Qas Af h;refine rB k 10 z Af fun k=>pN 17 k z fun a k=>nn (wp_cond_true (k.ev z) (wr (pN 1 k z fun a k=>?_)));have k:=k.keep [2] z;refine nn (wp_ret (Qad ?_));refine fS h k m z z
 have h:=Qat Af h;refine rB k 10 z Af fun k=>sv k z (Qg7 Qqy k z z) fun a k=>sv k z (rL Q2z m 0 Aa 1 k z) fun a k=>oE h fun Bp At h=>cC k m call205 z (Qyt fu (r1.fQ:Pallet)  At) fun Cl e a k m=>pN 3 k z fun a k=>Qak (!Bp) (fun Ai=>?_) (fun Ai=>?_)
 · have h:=Qas Ai h;refine rB k 16 z Ai fun k=>pN 11 k z fun a k=>nn (wp_cond_true (k.ev z) (wr (pN 1 k z fun a k=>?_)));have k:=k.keep [2] z;refine nn (wp_ret (Qad ?_));refine fS h k m z z
 have h:=Qat Ai h;refine rB k 16 z Ai fun k=>fl Qtq t13 m 0 Aa k z z fun a k=>oE h fun Bi Bf h=>cC k m call135 z (Qcp fu _ _ _  Bf) fun Ce e a k m=>pN 3 k z fun a k=>Qak (!Bi) (fun Ad=>?_) (fun Ad=>?_)
 · have h:=Qas Ad h;refine rB k 22 z Ad fun k=>pN 5 k z fun a k=>nn (wp_cond_true (k.ev z) (wr (pN 1 k z fun a k=>?_)));have k:=k.keep [2] z;refine nn (wp_ret (Qad ?_));refine fS h k m z z
 have h:=Qat Ad h;refine rB k 22 z Ad fun k=>fl Qn2 Q02 m 0 Aa k z z fun a k=>sv k z (Qaw (α:=Pair) Ao k underlying26 z z) fun a k=>pN 2 k z fun a k=>nn (cI h k z (fun Bm h=>?_) fun Bm h=>?_)
 · refine wr (pN 1 k z fun a k=>?_);have k:=k.keep [2] z;refine nn (wp_ret (Qad ?_));refine fS h k m z z
 refine wp_skip (Qaa ?_);exact ⟨k.keep [1] z,m.sl [0] z,h⟩
theorem Qxo (fu:Nat) {w0:World} (q1:Typ) (x2:Typ) {b3:Nat} (Aa:bx w0 b3 [I x2.f8,I x2.fW,I x2.fH,I x2.fD,I x2.f7,I x2.fV,I x2.fK] 76) {r:Bool}
    (h:Qqh fu q1 x2 = some r) :
    Calls Tryz.prog 211 #[.agg (Flat.e (q1)).toArray,pt b3] w0 fun e w=>e = .returned (.bool (r)) ∧ Ext [] w0 w:=by
 refine en (vs:=[_,_]) func211 z ntmps211 z fun a k m=>?_;unfold Qqh at h;refine wr (Qa1 (cs:=[I q1.f8,I q1.fW,I q1.fH,I q1.fD,I q1.f7,I q1.fV,I q1.fK]) m k z z z z z z fun b5 w7 a k m e Ab=>pN 1 k z fun a k=>nn (wr (fl Qsv t13 m 0 Ab k z z fun a k=>sv k z (Qg7 Qsv k z z) fun a k=>sv k z (Qam t13 (r:=[]) (Aa.at (m.a00 Aa.lt1) 0 1 z z z) k z z) fun a k=>pN 2 k z fun a k=>nn (wp_ret (fS h k m z z)))))
theorem Qxl (fu:Nat) {w0:World} (q1:Item) (x2:Item) {b3:Nat} (Aa:bx w0 b3 [I x2.f8,I x2.fW,I x2.fH,I x2.fD,I x2.fV,I x2.fF,I x2.f0] 83) {r:Bool}
    (h:Qqi fu q1 x2 = some r) :
    Calls Tryz.prog 212 #[.agg (Flat.e (q1)).toArray,pt b3] w0 fun e w=>e = .returned (.bool (r)) ∧ Ext [] w0 w:=by
 refine en (vs:=[_,_]) func212 z ntmps212 z fun a k m=>?_;unfold Qqi at h;refine wr (Qa1 (cs:=[I q1.f8,I q1.fW,I q1.fH,I q1.fD,I q1.fV,I q1.fF,I q1.f0]) m k z z z z z z fun b5 w7 a k m e Ab=>pN 1 k z fun a k=>nn (wr (fl Q03 t13 m 0 Ab k z z fun a k=>sv k z (Qg7 Q03 k z z) fun a k=>sv k z (Qam t13 (r:=[]) (Aa.at (m.a00 Aa.lt1) 0 1 z z z) k z z) fun a k=>pN 2 k z fun a k=>nn (wp_ret (fS h k m z z)))))
theorem Qoz (fu:Nat) {w0:World} (Aa:List Item) (f5:Item → Option Bool) {v2:Value} {F3:List Nat} (Ac:rd w0 F3 [v2] Aa) {v6:Value} (Ag:Qzm Tryz.prog w0 v6 f5) {r:Int}
    (h:Qbx fu Aa f5 = some r) :
    Calls Tryz.prog 215 #[v2,v6] w0 fun e w=>e = .returned (I r) ∧ Ext [] w0 w:=by
 refine en (vs:=[_,_]) func215 z ntmps215 z fun a k m=>?_;obtain ⟨Aj,Ak,rfl,Af,Ae⟩:=Ag;unfold Qbx at h;refine wr (pN 1 k z fun a k=>nn (wp_seq (wr (pN 1 k z fun a k=>sv k z (Qaw (α:=Item) Ac k underlying28 z z) fun a k=>pN 1 k z fun a k=>nn (wp_block (Qap (fun n a w=>∃ (Ab:Int),K 19 [(0,v2),(1,(.func (.func Aj) #[] Ak.toArray)),(7,I (Aa.length:Int)),(8,I Ab)] a ∧ St [] w0 w [] ∧ Qa3 fu Aa f5 n Ab = some r) ?_ ?_ fu _ _ ?_))))))
 · rintro a w ⟨_,_,_,h⟩;exact nS h
 · rintro Ap a Am ⟨Ab,k,m,h⟩;rw [Qa3.eq_2] at h;unfold Qb2 at h;refine wr (pN 1 k z fun a k=>nn (wp_seq (cI h k z (fun Ah h=>?_) fun Ah h=>?_)))
   · refine wp_skip (Qaa ?_);refine wp_seq (wp_block (wr (pN 2 k z fun a k=>nn (wr (pN 3 k z fun a k=>oE h fun As Ad h=>sv k z (Qaj Ac Ad k Qzs z z z) fun a k=>sv k z (Qic Ac (m.a00 (Enc.rd_lt Ac)) Ad Q06 k z z) fun a k=>oE h fun Aq Ai h=>Qum k Af z z z z z z (Ae _ _ _ _ m.ext z Ai) fun Ar Ao hR=>?_)))));obtain ⟨rfl,e⟩:=hR;refine ⟨_,z,fun a k=>?_⟩;have m:=m.step e;refine nn (cI h k z (fun Al h=>?_) fun Al h=>?_)
     · refine wr (pN 2 k z fun a k=>nn (wp_ret (Qaf (Qad (Qad (Qaf (Qad ?_)))))));refine fS h k m z z
     refine wp_skip (Qae (Qaa ?_));refine wp_region_lit (pN 2 k z fun a k=>nn ?_);exact ⟨w64 (Ab + 1),k.keep [0,1,7,8] z,m.sl [] z,h⟩
   refine wp_exit (Qag (Qag (Qal (Qaa ?_))));refine wr (pN 1 k z fun a k=>nn (wp_ret (fS h k m z z)))
 exact ⟨0,k.keep [0,1,7,8] z,m.sl [] z,h⟩
theorem Qcd (fu:Nat) {w0:World} (Aa:List Item) (f5:Item → Option Bool) {v2:Value} {F3:List Nat} (Ab:rd w0 F3 [v2] Aa) {v6:Value} (Ae:Qzm Tryz.prog w0 v6 f5) {r:Bool}
    (h:Qax fu Aa f5 = some r) :
    Calls Tryz.prog 129 #[v2,v6] w0 fun e w=>e = .returned (.bool (r)) ∧ Ext [] w0 w:=by
 refine en (vs:=[_,_]) func129 z ntmps129 z fun a k m=>?_;obtain ⟨Ak,Al,rfl,Ad,Ac⟩:=Ae;unfold Qax at h;refine wr (pN 1 k z fun a k=>nn (wr (pN 2 k z fun a k=>oE h fun Ai Ag h=>cC k m call215 z (Qoz fu _ _ (m.r Ab) ⟨_,_,z,Ad,fun w Ah Af r e=>Ac w Ah Af r (m.ext.trans e (by simp))⟩ Ag) fun Aj e a k m=>pN 2 k z fun a k=>nn (wp_ret (fS h k m z z)))))
theorem Qxp (fu:Nat) {w0:World} (p1:Pair) (x2:Request) {v5:Value} {F6:List Nat} {v8:Value} {F9:List Nat} {Ac:Value} {Ae:List Nat} {b3:Nat} (Ab:bx w0 b3 (cR x2 v5 v8 Ac) 30) (Ag:rd w0 F6 [v5] x2.fL) (Ah:rd w0 F9 [v8] x2.fT) (Af:rd w0 Ae [Ac] x2.fG) {r:Bool}
    (h:Ql9 fu p1 x2 = some r) :
    Calls Tryz.prog 213 #[.agg (Flat.e (p1)).toArray,pt b3] w0 fun e w=>e = .returned (.bool (r)) ∧ Ext [] w0 w:=by
 refine en (vs:=[_,_]) func213 z ntmps213 z fun a k m=>?_;unfold Ql9 at h;refine wr (Qa1 (cs:=[I p1.fA,I p1.fB]) m k z z z z z z fun Ai Aj a k m e Ad=>pN 1 k z fun a k=>nn (wr (fl Qx9 t13 m 0 Ad k z z fun a k=>sv k z (Qg7 Qtq k z z) fun a k=>sv k z (Qam t13 (r:=[]) (Ab.at (m.a00 Ab.lt1) 5 1 z z z) k z z) fun a k=>pN 2 k z fun a k=>Qak (decide (p1.fA ≥ x2.fR)) (fun Aa=>?_) (fun Aa=>?_))))
 · have h:=Qas Aa h;refine rB k 9 z Aa fun k=>pN 7 k z fun a k=>nn (wp_ret (fS h k m z z))
 have h:=Qat Aa h;refine rB k 9 z Aa fun k=>fl Qyq t13 m 0 Ad k z z fun a k=>sv k z (Qg7 Qtq k z z) fun a k=>sv k z (Qam t13 (r:=[]) (Ab.at (m.a00 Ab.lt1) 5 1 z z z) k z z) fun a k=>pN 3 k z fun a k=>nn (wp_ret (fS h k m z z))
theorem Q0n (fu:Nat) {w0:World} (r1:Request) {Ap:List Value} {F3:List Nat} (Bi:rd w0 F3 Ap r1) {r:Bool}
    (h:Qpp fu r1 = some r) :
    Calls Tryz.prog 127 #[.agg Ap.toArray] w0 fun e w=>e = .returned (.bool (r)) ∧ Ext [] w0 w:=by
 refine en (vs:=[_]) func127 z ntmps127 z fun a k m=>?_;obtain ⟨v5,F6,v7,F8,v9,Cj,rfl,rfl,Ah,Ab,Aa⟩:=Bi;unfold Qpp at h;refine wr (Qa1 (cs:=(cR r1 v5 v7 v9)) m k z z z z z z fun Ag Am a k m e Ae=>pN 1 k z fun a k=>nn (wp_seq (wr (fl Qec Qus m 0 Ae k z z fun a k=>sv k z (Qaw (α:=Typ) Ab k underlying27 z z) fun a k=>pN 1 k z fun a k=>nn (wp_block (Qap (fun n a w=>∃ (Al:Int),K 59 [(1,pt Ag),(10,v7),(11,I (r1.fT.length:Int)),(12,I Al)] a ∧ St [] w0 w [([Ag],Am)] ∧ Qe4 fu r1 n Al = some r) ?_ ?_ fu _ _ ?_))))))
 · rintro a w ⟨_,_,_,h⟩;exact nS h
 · rintro Bt a By ⟨Al,k,m,h⟩;rw [Qe4.eq_2] at h;unfold Qk3 at h;refine wr (pN 1 k z fun a k=>nn (wp_seq (cI h k z (fun Bf h=>?_) fun Bf h=>?_)))
   · refine wp_skip (Qaa ?_);refine wp_seq (wp_block (wr (pN 1 k z fun a k=>oE h fun Af Ao h=>sv k z (Qaj Ab Ao k Q2u z z z) fun a k=>sv k z (Qic Ab (m.a00 (Enc.rd_lt Ab)) Ao Qtp k z z) fun a k=>Qan (cs:=[I 0,I 0,I 0,I 0,I 0,I 0,I 0]) m k zeroValue76 z z z z z fun Bc Bw a k m e Bm=>pN 1 k z fun a k=>sT (cs':=[I Af.f8,I Af.fW,I Af.fH,I Af.fD,I Af.f7,I Af.fV,I Af.fK]) sizeOf76 m 0 Bm 0 k z z fun Bs a k e m Au=>nn (wr (fl Qec Qus m 1 Ae k z z fun a k=>pN 1 k z fun a k=>oE h fun Ce Bo h=>?_)))));refine Q8a Ab Bo k Q2u z z z z z z fun Cc a k Aq=>pN 1 k z fun a k=>oE h fun Ca Bn h=>cC k m call132 z (Qdj fu _ _ (m.r Aq) ⟨211,[pt Bc],z,call211,fun w Cp Cs r e Bl hx=>by subst Bl; have m:=m.step e; exact Qxo fu _ _ (Au.agr (m.a 0 rfl) (by simp)) hx⟩ Bn) fun Bx e a k m=>nn (cI h k rfl (fun Bd h=>?_) fun Bd h=>?_)
     · refine wr (pN 1 k z fun a k=>nn (wp_ret (Qaf (Qad (Qad (Qaf (Qad ?_)))))));refine fS h k m z z
     refine wp_skip (Qae (Qaa ?_));refine wp_region_lit (pN 2 k z fun a k=>nn ?_);exact ⟨w64 (Al + 1),k.keep [1,10,11,12] z,m.sl [1] z,h⟩
   refine wp_exit (Qag (Qag (Qal (Qaa ?_))));refine wp_seq (wr (fl Qgw Qvf m 0 Ae k z z fun a k=>sv k z (Qaw (α:=Item) Aa k underlying28 z z) fun a k=>pN 1 k z fun a k=>nn (wp_block (Qap (fun n a w=>∃ (Ai:Int),K 59 [(1,pt Ag),(25,v9),(26,I (r1.fG.length:Int)),(27,I Ai)] a ∧ St [] w0 w [([Ag],Am)] ∧ Qdg fu r1 n Ai = some r) ?_ ?_ fu _ _ ?_))))
   · rintro a w ⟨_,_,_,h⟩;exact nS h
   · rintro Ax a Cn ⟨Ai,k,m,h⟩;rw [Qdg.eq_2] at h;unfold Qkq at h;refine wr (pN 1 k z fun a k=>nn (wp_seq (cI h k z (fun Av h=>?_) fun Av h=>?_)))
     · refine wp_skip (Qaa ?_);refine Qce (fun a w=>K 59 [(1,pt Ag),(25,v9),(26,I (r1.fG.length:Int)),(27,I Ai)] a ∧ St [] w0 w [([Ag],Am)] ∧ Qow fu (Qdg fu r1 Ax) Ai = some r) ?_ ?_
       · rintro a Cb ⟨k,m,h⟩;unfold Qow at h;refine wp_region_lit (pN 2 k z fun a k=>nn ?_);exact ⟨w64 (Ai + 1),k.keep [1,25,26,27] z,m.sl [0] z,h⟩
       refine wp_block (wr (pN 1 k z fun a k=>oE h fun Ad Ar h=>sv k z (Qaj Aa Ar k Qzs z z z) fun a k=>sv k z (Qic Aa (m.a00 (Enc.rd_lt Aa)) Ar Q06 k z z) fun a k=>Qan (cs:=[I 0,I 0,I 0,I 0,I 0,I 0,I 0]) m k zeroValue83 z z z z z fun Aw Cf a k m e Bg=>pN 1 k z fun a k=>sT (cs':=[I Ad.f8,I Ad.fW,I Ad.fH,I Ad.fD,I Ad.fV,I Ad.fF,I Ad.f0]) sizeOf83 m 0 Bg 0 k z z fun Cq a k e m At=>nn (wr (fl Qv6 t13 m 0 At k z z fun a k=>sv k z (Qg7 Qtq k z z) fun a k=>?_))));refine sv k z (Qqk t13 m 1 Ae 5 k z z z z z) fun a k=>pN 2 k z fun a k=>Qak (decide (Ad.fF ≥ r1.fR)) (fun Aj=>?_) (fun Aj=>?_)
       · have h:=Qas Aj h;refine rB k 37 z Aj fun k=>pN 7 k z fun a k=>nn (wp_cond_true (k.ev z) (wr (pN 1 k z fun a k=>nn (wp_ret (Qaf (Qad (Qad (Qaf (Qad ?_)))))))));refine fS h k m z z
       have h:=Qat Aj h;refine rB k 37 z Aj fun k=>fl Qgw Qvf m 1 Ae k z z fun a k=>pN 1 k z fun a k=>oE h fun Co Ay h=>Q8a Aa Ay k Qzs z z z z z z fun Ci a k As=>pN 1 k z fun a k=>oE h fun Cr Az h=>cC k m call129 z (Qcd fu _ _ (m.r As) ⟨212,[pt Aw],z,call212,fun w Cm Cl r e Ba hx=>by subst Ba; have m:=m.step e; exact Qxl fu _ _ (At.agr (m.a 0 rfl) (by simp)) hx⟩ Az) fun Bz e a k m=>pN 1 k rfl fun a k=>nn (cI h k rfl (fun Bb h=>?_) fun Bb h=>?_)
       · refine wr (pN 1 k z fun a k=>nn (wp_ret (Qaf (Qad (Qad (Qaf (Qad ?_)))))));refine fS h k m z z
       refine wp_skip (Qae (Qaa ?_));exact ⟨k.keep [1,25,26,27] z,m.sl [1] z,h⟩
     refine wp_exit (Qag (Qag (Qal (Qaa ?_))));refine wr (sv k z (rL Qdu m 0 Ae 0 k z) fun a k=>oE h fun Ac Bk h=>cC k m call125 z (Qup fu _ (Qah (m.r Ah) (m.r Ab) (m.r Aa)) Bk) fun Cg e a k m=>pN 3 k z fun a k=>Qan (cs:=[I 0,I 0,I 0,I 0,I 0,I 0,I 0]) m k zeroValue76 z z z z z fun Br Ch a k m e Bj=>?_);refine sT (cs':=[I Ac.1.f8,I Ac.1.fW,I Ac.1.fH,I Ac.1.fD,I Ac.1.f7,I Ac.1.fV,I Ac.1.fK]) sizeOf76 m 0 Bj 0 k z z fun Bu a k e m Ck=>pN 1 k z fun a k=>nn (wr (pN 2 k z fun a k=>Qak (Ac.2) (fun Ak=>?_) (fun Ak=>?_)))
     · have h:=Qas Ak h;refine rB k 52 z Ak fun k=>fl Qn2 Q02 m 1 Ae k z z fun a k=>pN 1 k z fun a k=>oE h fun Bp Bh h=>cC k m call206 z (Qf7 fu _ _ (m.r Ah) ⟨213,[pt Ag],z,call213,fun w Cd Bv r e Be hx=>by subst Be; have m:=m.step e; exact Qxp fu _ _ (Ae.agr (m.a 1 rfl) (by simp)) (m.r Ah) (m.r Ab) (m.r Aa) hx⟩ Bh) fun Bq e a k m=>pN 3 k rfl fun a k=>nn (wp_ret (fS h k m rfl rfl))
     have h:=Qat Ak h;refine rB k 52 z Ak fun k=>pN 7 k z fun a k=>nn (wp_ret (fS h k m z z))
   exact ⟨0,k.keep [1,25,26,27] z,m.sl [0] z,h⟩
 exact ⟨0,k.keep [1,10,11,12] z,m.sl [0] z,h⟩
theorem Qqw (fu:Nat) {w0:World} (Ac:List Pair) (v5:Pair) {v2:Value} {F3:List Nat} (Ab:rd w0 F3 [v2] Ac) {r:Int}
    (h:Qc8 fu Ac v5 = some r) :
    Calls Tryz.prog 289 #[v2,.agg (Flat.e (v5)).toArray] w0 fun e w=>e = .returned (I r) ∧ Ext [] w0 w:=by
 refine en (vs:=[_,_]) func289 z ntmps289 z fun a k m=>?_;unfold Qc8 at h;refine wr (Qa1 (cs:=[I v5.fA,I v5.fB]) m k z z z z z z fun b6 w9 a k m e Ae=>pN 1 k z fun a k=>nn (wp_seq (wr (pN 1 k z fun a k=>sv k z (Qaw (α:=Pair) Ab k underlying26 z z) fun a k=>pN 1 k z fun a k=>nn (wp_block (Qap (fun n a w=>∃ (Aa:Int),K 19 [(0,v2),(3,pt b6),(7,I (Ac.length:Int)),(8,I Aa)] a ∧ St [] w0 w [([b6],w9)] ∧ Qbc fu Ac v5 n Aa = some r) ?_ ?_ fu _ _ ?_))))))
 · rintro a w ⟨_,_,_,h⟩;exact nS h
 · rintro Aj a Ak ⟨Aa,k,m,h⟩;rw [Qbc.eq_2] at h;unfold Qck at h;refine wr (pN 1 k z fun a k=>nn (wp_seq (cI h k z (fun Ah h=>?_) fun Ah h=>?_)))
   · refine wp_skip (Qaa ?_);refine wp_seq (wp_block (wr (pN 2 k z fun a k=>nn (wp_seq (Qg4 [] Qgt m z fun Ag hMd=>?_)))));have m:=hMd;have s:=Ext.refl ([]:List Nat) Ag;refine dM [1,2] 2 z k z s fun a k=>dT k 0 z z s (fun w s=>Qbp Jbd (Ae.at ((hMd.step s).a 0 z) 0 2 z z z) z k z z) fun a k=>oE h fun Af Ad h=>dT k 3 z z s (fun w s=>Qaj Ab Ad k Ja5 z z z) fun a k=>dT k 4 z z s (fun w s=>Qic Ab ((hMd.step s).a00 (Enc.rd_lt Ab)) Ad Jbd k z z) fun a k=>dT k 5 z z s (fun w s=>Jho Jfr (x:=v5) (y:=Af) k z z z z z) fun a k=>dD ((Qaa ?_));refine cI h k z (fun Ai h=>?_) fun Ai h=>?_
     · refine wr (pN 2 k z fun a k=>nn (wp_ret (Qaf (Qad (Qad (Qaf (Qad ?_)))))));refine fS h k m z z
     refine wp_skip (Qae (Qaa ?_));refine wp_region_lit (pN 2 k z fun a k=>nn ?_);exact ⟨w64 (Aa + 1),k.keep [0,3,7,8] z,m.sl [0] z,h⟩
   refine wp_exit (Qag (Qag (Qal (Qaa ?_))));refine wr (pN 1 k z fun a k=>nn (wp_ret (fS h k m z z)))
 exact ⟨0,k.keep [0,3,7,8] z,m.sl [0] z,h⟩
theorem Qpe (fu:Nat) {w0:World} (Ab:List Pair) (v5:Pair) {v2:Value} {F3:List Nat} (Aa:rd w0 F3 [v2] Ab) {r:Bool}
    (h:Qcr fu Ab v5 = some r) :
    Calls Tryz.prog 263 #[v2,.agg (Flat.e (v5)).toArray] w0 fun e w=>e = .returned (.bool (r)) ∧ Ext [] w0 w:=by
 refine en (vs:=[_,_]) func263 z ntmps263 z fun a k m=>?_;unfold Qcr at h;refine wr (Qa1 (cs:=[I v5.fA,I v5.fB]) m k z z z z z z fun b6 w9 a k m e Ac=>pN 1 k z fun a k=>nn (wr (pN 1 k z fun a k=>sv k z (rL Jbd m 0 Ac 0 k z) fun a k=>oE h fun Ae Ad h=>cC k m call289 z (Qqw fu _ (v5:Pair) (m.r Aa) Ad) fun Af e a k m=>pN 2 k z fun a k=>nn (wp_ret (fS h k m z z)))))
theorem Qrm (fu:Nat) {w0:World} (Aa:List Pair) (a5:Int) (b6:Int) {v2:Value} {F3:List Nat} (Ab:rd w0 F3 [v2] Aa) {r:Bool}
    (h:Qhb fu Aa a5 b6 = some r) :
    Calls Tryz.prog 214 #[v2,I a5,I b6] w0 fun e w=>e = .returned (.bool (r)) ∧ Ext [] w0 w:=by
 refine en (vs:=[_,_,_]) func214 z ntmps214 z fun a k m=>?_;unfold Qhb at h;refine wr (pN 1 k z fun a k=>nn (wr (pN 3 k z fun a k=>sv k z (Qba Q7p k (cs:=#[I a5,I b6]) (ps:=[(0,.tmp 8),(1,.tmp 9)]) z z (by kernel_rfl)) fun a k=>oE h fun x7 Ac h=>cC k m call263 z (Qpe fu _ (⟨a5,b6⟩:Pair) (m.r Ab) Ac) fun Ad e a k m=>pN 1 k z fun a k=>nn (wp_ret (fS h k m z z)))))
theorem Q0a (fu:Nat) {w0:World} (Ad:List Pair) (Aa:Int) {v2:Value} {F3:List Nat} (Ac:rd w0 F3 [v2] Ad) {r:Bool}
    (h:Qpt fu Ad Aa = some r) :
    Calls Tryz.prog 128 #[v2,I Aa] w0 fun e w=>e = .returned (.bool (r)) ∧ Ext [] w0 w:=by
 refine en (vs:=[_,_]) func128 z ntmps128 z fun a k m=>?_;unfold Qpt at h;refine wr (pN 1 k z fun a k=>nn (wp_seq (wr (pN 1 k z fun a k=>oE h fun x6 Ak h=>cC k m call135 z (Qcp fu _ _ _  Ak) fun w9 e a k m=>pN 1 k z fun a k=>nn (cI h k z (fun Ap h=>?_) fun Ap h=>?_)))))
 · refine wr (pN 1 k z fun a k=>nn (wp_ret (Qad ?_)));refine fS h k m z z
 refine wp_skip (Qaa ?_);refine wp_seq (wr (pN 2 k z fun a k=>nn (wp_block (Qap (fun n a w=>∃ (Ab:Int),K 34 [(0,v2),(1,I Aa),(10,I Aa),(11,I Ab)] a ∧ St [] w0 w [] ∧ Qfa fu Ad Aa n Ab = some r) ?_ ?_ fu _ _ ?_))))
 · rintro a w ⟨_,_,_,h⟩;exact nS h
 · rintro Ag a Aw ⟨Ab,k,m,h⟩;rw [Qfa.eq_2] at h;unfold Qll at h;refine wr (pN 1 k z fun a k=>nn (wp_seq (cI h k z (fun Ah h=>?_) fun Ah h=>?_)))
   · refine wp_skip (Qaa ?_);refine wp_seq (wp_block (wr (pN 2 k z fun a k=>nn (wp_seq (wr (pN 3 k z fun a k=>oE h fun At Am h=>cC k m call214 z (Qrm fu _ _ _ (m.r Ac) Am) fun Aq e a k m=>pN 1 k z fun a k=>nn (cI h k z (fun Al h=>?_) fun Al h=>?_)))))))
     · refine wr (pN 1 k z fun a k=>nn (wp_ret (Qad (Qaf (Qad (Qad (Qaf (Qad ?_))))))));refine fS h k m z z
     refine wp_skip (Qaa ?_);refine wr (pN 2 k z fun a k=>nn (wp_block (Qap (fun n a w=>∃ (Ae:Int),K 34 [(0,v2),(1,I Aa),(5,I Ab),(10,I Aa),(11,I Ab),(19,I Aa),(20,I Ae)] a ∧ St [] w0 w [] ∧ Qe3 fu (Qfa fu Ad Aa Ag) Ad Aa Ab n Ae = some r) ?_ ?_ fu _ _ ?_)))
     · rintro a w ⟨_,_,_,h⟩;exact nS h
     · rintro Au a Ar ⟨Ae,k,m,h⟩;rw [Qe3.eq_2] at h;unfold Ql2 at h;refine wr (pN 1 k z fun a k=>nn (wp_seq (cI h k z (fun Aj h=>?_) fun Aj h=>?_)))
       · refine wp_skip (Qaa ?_);refine wp_seq (wp_block (wr (pN 2 k z fun a k=>nn (wr (pN 3 k z fun a k=>oE h fun As Ao h=>cC k m call214 z (Qrm fu _ _ _ (m.r Ac) Ao) fun Ay e a k m=>pN 3 k z fun a k=>oE h fun Av Ai h=>cC k m call214 z (Qrm fu _ _ _ (m.r Ac) Ai) fun Ax e a k m=>sv k z (Jdc k underlying4 z z z) fun a k=>nn (cI h k z (fun Af h=>?_) fun Af h=>?_))))))
         · refine wr (pN 1 k z fun a k=>nn (wp_ret (Qaf (Qad (Qad (Qaf (Qaf (Qad (Qad (Qaf (Qad ?_)))))))))));refine fS h k m z z
         refine wp_skip (Qae (Qaa ?_));refine wp_region_lit (pN 2 k z fun a k=>nn ?_);exact ⟨w64 (Ae + 1),k.keep [0,1,5,10,11,19,20] z,m.sl [] z,h⟩
       refine wp_exit (Qag (Qag (Qal (Qae (Qaa ?_)))));refine wp_region_lit (pN 2 k z fun a k=>nn ?_);exact ⟨w64 (Ab + 1),k.keep [0,1,10,11] z,m.sl [] z,h⟩
     exact ⟨0,k.keep [0,1,5,10,11,19,20] z,m.sl [] z,h⟩
   refine wp_exit (Qag (Qag (Qal (Qaa ?_))));refine wr (pN 1 k z fun a k=>nn (wp_ret (fS h k m z z)))
 exact ⟨0,k.keep [0,1,10,11] z,m.sl [] z,h⟩
theorem Qit (fu:Nat) {w0:World} (x1:List Int) {v2:Value} {F3:List Nat} (Aa:ow w0 F3 [v2] x1) {r:List Int}
    (h:Qc1 fu x1 = some r) :
    Calls Tryz.prog 144 #[v2] w0 fun e w=>∃ H:List Nat,e = .returned (.tuple #[]) ∧ Ext F3 w0 w ∧ (∀ b ∈ H,b ∈ F3 ∨ w0.heap.size ≤ b) ∧ ow w H [v2] r :=
  (Q92 (fun blk off cap zs w=>Tryz.slices_Sort_int blk off cap zs w) (fun p cap w=>Tryz.slices_Sort_int_none p cap w) x1 Aa h).mono fun e w ⟨h1,h2,h3⟩=>⟨_,h1,h2,fun b hb=>.inl hb,h3⟩
theorem Qy0 (fu:Nat) {w0:World} (x1:Item) (t2:Typ)  {r:Bool}
    (h:Qr6 fu x1 t2 = some r) :
    Calls Tryz.prog 131 #[.agg (Flat.e (x1)).toArray,.agg (Flat.e (t2)).toArray] w0 fun e w=>e = .returned (.bool (r)) ∧ Ext [] w0 w:=by
 refine en (vs:=[_,_]) func131 z ntmps131 z fun a k m=>?_;unfold Qr6 at h;refine wr (Qa1 (cs:=[I x1.f8,I x1.fW,I x1.fH,I x1.fD,I x1.fV,I x1.fF,I x1.f0]) m k z z z z z z fun b3 w5 a k m e Ag=>Qa1 (cs:=[I t2.f8,I t2.fW,I t2.fH,I t2.fD,I t2.f7,I t2.fV,I t2.fK]) m k z z z z z z fun b6 w9 a k m e Af=>pN 1 k z fun a k=>nn ?_);refine Qce (fun a w=>∃ (Al:List Int) (Ao:Value) (Am:List Nat) (Aj:World) (Ai:List Int) (Ah:Value) (Ap:List Nat) (Ak:World),K 57 [(2,pt b3),(3,pt b6),(5,Ao),(6,Ah)] a ∧ St [] w0 w [([b3],w5),([b6],w9),(Am,Aj),(Ap,Ak)] ∧ ow Aj Am [Ao] Al ∧ ow Ak Ap [Ah] Ai ∧ Qsh fu x1 t2 Al Ai = some r) ?_ ?_
 · rintro a Ct ⟨Al,Ao,Am,Aj,Ai,Ah,Ap,Ak,k,m,Bm,Bu,h⟩;unfold Qsh at h;refine wr (pN 1 k z fun a k=>oE h fun Cg Cb h=>sC k call144 z (Qit fu _ (m.v Bm 2 z) Cb) fun Ci Cm hR=>?_);obtain ⟨Cu,rfl,e,By,Aa⟩:=hR;refine ⟨_,z,fun a k=>?_⟩;have m:=m.mut 2 z e _ (fun b hb=>⟨By b hb,Enc.rd_lt (Enc.ow_rd Aa) b hb⟩) (Enc.ow_nd Aa);refine nn (wr (pN 1 k z fun a k=>oE h fun Ck Bi h=>sC k call144 z (Qit fu _ (m.v Bu 3 z) Bi) fun Co Cp hR=>?_));obtain ⟨Cs,rfl,e,Bo,Ab⟩:=hR;refine ⟨_,z,fun a k=>?_⟩;have m:=m.mut 3 z e _ (fun b hb=>⟨Bo b hb,Enc.rd_lt (Enc.ow_rd Ab) b hb⟩) (Enc.ow_nd Ab);refine nn (wp_seq (Qg4 [] Qgt m z fun Bq hMd=>?_));have m:=hMd;have s:=Ext.refl ([]:List Nat) Bq
   refine dM [0,3] 2 z k z s fun a k=>oE h fun Ba Ar h=>dT k 1 z z s (fun w s=>Qaj (Enc.ow_rd Aa) Ar k Qhk z z z) fun a k=>dT k 2 z z s (fun w s=>Qau (Enc.ow_rd Aa) ((hMd.step s).a 2 z) Ar 0 t13 k z z z z) fun a k=>oE h fun Cc Au h=>dT k 4 z z s (fun w s=>Qaj (Enc.ow_rd Ab) Au k Qhk z z z) fun a k=>dT k 5 z z s (fun w s=>Qau (Enc.ow_rd Ab) ((hMd.step s).a 3 z) Au 0 t13 k z z z z) fun a k=>dM [6,7] 2 z k z s fun a k=>Qak (decide (Ba ≤ Cc)) (fun Ac=>?_) (fun Ac=>?_)
   · have h:=Qas Ac h;refine rB k 32 z Ac fun k=>dM [8,11] 2 z k z s fun a k=>oE h fun Bj Aq h=>dT k 9 z z s (fun w s=>Qaj (Enc.ow_rd Aa) Aq k Qhk z z z) fun a k=>dT k 10 z z s (fun w s=>Qau (Enc.ow_rd Aa) ((hMd.step s).a 2 z) Aq 0 t13 k z z z z) fun a k=>oE h fun Bv Az h=>dT k 12 z z s (fun w s=>Qaj (Enc.ow_rd Ab) Az k Qhk z z z) fun a k=>dT k 13 z z s (fun w s=>Qau (Enc.ow_rd Ab) ((hMd.step s).a 3 z) Az 0 t13 k z z z z) fun a k=>dM [14,15,16] 3 z k z s fun a k=>Qak (decide (Bj ≤ Bv)) (fun Ae=>?_) (fun Ae=>?_)
     · have h:=Qas Ae h;refine rB k 41 z Ae fun k=>dM [17,20] 2 z k z s fun a k=>oE h fun Bw As h=>dT k 18 z z s (fun w s=>Qaj (Enc.ow_rd Aa) As k Qhk z z z) fun a k=>dT k 19 z z s (fun w s=>Qau (Enc.ow_rd Aa) ((hMd.step s).a 2 z) As 0 t13 k z z z z) fun a k=>oE h fun Br Aw h=>dT k 21 z z s (fun w s=>Qaj (Enc.ow_rd Ab) Aw k Qhk z z z) fun a k=>dT k 22 z z s (fun w s=>Qau (Enc.ow_rd Ab) ((hMd.step s).a 3 z) Aw 0 t13 k z z z z) fun a k=>dM [23,24,25] 3 z k z s fun a k=>Qak (decide (Bw ≤ Br)) (fun Ad=>?_) (fun Ad=>?_)
       · have h:=Qas Ad h;refine rB k 50 z Ad fun k=>dF k 26 Qw3 z s fun a k=>dT k 27 z z s (fun w s=>Qam t13 (r:=[]) (Ag.at ((hMd.step s).a 0 z) 4 1 z z z) k z z) fun a k=>dF k 28 Qu5 z s fun a k=>dT k 29 z z s (fun w s=>Qam t13 (r:=[]) (Af.at ((hMd.step s).a 1 z) 5 1 z z z) k z z) fun a k=>dM [30,31,32] 3 z k z s fun a k=>dD ?_;have k:=k.keep [4] z;refine (Qaa ?_);refine wp_ret (fS h k m z z)
       have h:=Qat Ad h;refine rB k 50 z Ad fun k=>dM [26,27,28,29,30,31,32] 7 z k z s fun a k=>dD ?_;have k:=k.keep [4] z;refine (Qaa ?_);refine wp_ret (fS h k m z z)
     have h:=Qat Ae h;refine rB k 41 z Ae fun k=>dM [17,18,19,20,21,22,23,24,25,26,27,28,29,30,31,32] 16 z k z s fun a k=>dD ?_;have k:=k.keep [4] z;refine (Qaa ?_);refine wp_ret (fS h k m z z)
   have h:=Qat Ac h;refine rB k 32 z Ac fun k=>dM [8,9,10,11,12,13,14,15,16,17,18,19,20,21,22,23,24,25,26,27,28,29,30,31,32] 25 z k z s fun a k=>dD ?_;have k:=k.keep [4] z;refine (Qaa ?_);refine wp_ret (fS h k m z z)
 refine Qg4 [] Qgt m z fun Bl hMd=>?_;have m:=hMd;have s:=Ext.refl ([]:List Nat) Bl;refine dF k 0 Qyd z s fun a k=>dT k 1 z z s (fun w s=>Qam t13 (r:=[]) (Ag.at ((hMd.step s).a 1 z) 1 1 z z z) k z z) fun a k=>dF k 2 Qyz z s fun a k=>dT k 3 z z s (fun w s=>Qam t13 (r:=[]) (Ag.at ((hMd.step s).a 1 z) 2 1 z z z) k z z) fun a k=>dF k 4 Qxd z s fun a k=>dT k 5 z z s (fun w s=>Qam t13 (r:=[]) (Ag.at ((hMd.step s).a 1 z) 3 1 z z z) k z z) fun a k=>?_;refine dF k 7 Quo z s fun a k=>dT k 8 z z s (fun w s=>Qam t13 (r:=[]) (Af.at ((hMd.step s).a 0 z) 1 1 z z z) k z z) fun a k=>dF k 9 Qt1 z s fun a k=>dT k 10 z z s (fun w s=>Qam t13 (r:=[]) (Af.at ((hMd.step s).a 0 z) 2 1 z z z) k z z) fun a k=>dF k 11 Quf z s fun a k=>dT k 12 z z s (fun w s=>Qam t13 (r:=[]) (Af.at ((hMd.step s).a 0 z) 3 1 z z z) k z z) fun a k=>Qhm 6 13 (by kernel_rfl) z z ?_ ?_
 · refine Qcn (cs:=[I x1.fW,I x1.fH,I x1.fD]) (ps:=[(0,.tmp 8),(1,.tmp 10),(2,.tmp 12)]) Qb6 m k z z z z z z z (by decide) z (by exact fC z (fC z (fC z fN))) fun Ax Bg Cj a k m e Bs Bk=>?_;have Cl:=lo1 (Nat.le_trans s.size Bk);have Be:=Qa6 Bs ([x1.fW,x1.fH,x1.fD]:List Int) z z z;refine ns s e fun s=>?_;refine dM [14] 1 z k z s fun a k=>dO 13 z (Qcn (cs:=[I t2.fW,I t2.fH,I t2.fD]) (ps:=[(0,.tmp 15),(1,.tmp 17),(2,.tmp 19)]) Qb6 m k z z z z z z z (by decide) z (by exact fC z (fC z (fC z fN))) fun Ay Bd Cr a k m e Bt Bn=>?_);have Ce:=lo1 (Nat.le_trans s.size Bn);have Bp:=Qa6 Bt ([t2.fW,t2.fH,t2.fD]:List Int) z z z;refine ns s e fun s=>?_;refine dM [15] 1 z k z s fun a k=>dD ((Qaa ?_));exact ⟨([x1.fW,x1.fH,x1.fD]:List Int),(.slice (some ⟨Ax,0,none⟩) 3 3),[Ax],Bg,([t2.fW,t2.fH,t2.fD]:List Int),(.slice (some ⟨Ay,0,none⟩) 3 3),[Ay],Bd,k.keep [2,3,5,6] z,m.sl [3,2,1,0] z,Be,Bp,h⟩
 refine Qcn (cs:=[I t2.fW,I t2.fH,I t2.fD]) (ps:=[(0,.tmp 15),(1,.tmp 17),(2,.tmp 19)]) Qb6 m k z z z z z z z (by decide) z (by exact fC z (fC z (fC z fN))) fun At Bb Cf a k m e Cd Ca=>?_;have Ch:=lo1 (Nat.le_trans s.size Ca);have Bf:=Qa6 Cd ([t2.fW,t2.fH,t2.fD]:List Int) z z z;refine ns s e fun s=>?_;refine dO 6 z (Qcn (cs:=[I x1.fW,I x1.fH,I x1.fD]) (ps:=[(0,.tmp 8),(1,.tmp 10),(2,.tmp 12)]) Qb6 m k z z z z z z z (by decide) z (by exact fC z (fC z (fC z fN))) fun Av Bx Cq a k m e Bz Bc=>?_);have Cn:=lo1 (Nat.le_trans s.size Bc);have Bh:=Qa6 Bz ([x1.fW,x1.fH,x1.fD]:List Int) z z z;refine ns s e fun s=>?_;refine dM [14,15] 2 z k z s fun a k=>dD ((Qaa ?_));exact ⟨([x1.fW,x1.fH,x1.fD]:List Int),(.slice (some ⟨Av,0,none⟩) 3 3),[Av],Bx,([t2.fW,t2.fH,t2.fD]:List Int),(.slice (some ⟨At,0,none⟩) 3 3),[At],Bb,k.keep [2,3,5,6] z,m.sl [3,2,0,1] z,Bh,Bf,h⟩
theorem Q0g (fu:Nat) {w0:World} (x1:Item) (x2:Typ) {b3:Nat} (Aa:bx w0 b3 [I x2.f8,I x2.fW,I x2.fH,I x2.fD,I x2.f7,I x2.fV,I x2.fK] 76) {r:Bool}
    (h:Qps fu x1 x2 = some r) :
    Calls Tryz.prog 130 #[.agg (Flat.e (x1)).toArray,pt b3] w0 fun e w=>e = .returned (.bool (r)) ∧ Ext [] w0 w:=by
 refine en (vs:=[_,_]) func130 z ntmps130 z fun a k m=>?_;unfold Qps at h;refine wr (Qa1 (cs:=[I x1.f8,I x1.fW,I x1.fH,I x1.fD,I x1.fV,I x1.fF,I x1.f0]) m k z z z z z z fun b5 w7 a k m e Ab=>pN 1 k z fun a k=>nn (wr (sv k z (rL Q06 m 0 Ab 0 k z) fun a k=>sv k z (Qbp Qtp (Aa.at (m.a00 Aa.lt1) 0 7 z z z) z k z z) fun a k=>oE h fun x8 Ac h=>cC k m call131 z (Qy0 fu (x1:Item) (x2:Typ)  Ac) fun Ad e a k m=>pN 2 k z fun a k=>nn (wp_ret (fS h k m z z)))))
theorem Qz5 (fu:Nat) {w0:World} (t1:Typ) (x2:Pallet) {b3:Nat} (Aa:bx w0 b3 [I x2.fW,I x2.fD,I x2.fH,I x2.fV] 25) {r:Bool}
    (h:Qp1 fu t1 x2 = some r) :
    Calls Tryz.prog 133 #[.agg (Flat.e (t1)).toArray,pt b3] w0 fun e w=>e = .returned (.bool (r)) ∧ Ext [] w0 w:=by
 refine en (vs:=[_,_]) func133 z ntmps133 z fun a k m=>?_;unfold Qp1 at h;refine wr (Qa1 (cs:=[I t1.f8,I t1.fW,I t1.fH,I t1.fD,I t1.f7,I t1.fV,I t1.fK]) m k z z z z z z fun b5 w7 a k m e Ad=>pN 1 k z fun a k=>nn (wr (fl Quo t13 m 0 Ad k z z fun a k=>sv k z (Qg7 Qug k z z) fun a k=>sv k z (Qam t13 (r:=[]) (Aa.at (m.a00 Aa.lt1) 0 1 z z z) k z z) fun a k=>pN 2 k z fun a k=>Qak (decide (t1.fW > x2.fW)) (fun Ab=>?_) (fun Ab=>?_))))
 · have h:=Qas Ab h;refine rB k 9 z Ab fun k=>pN 24 k z fun a k=>?_;have k:=k.keep [3] z;refine nn (wp_ret (fS h k m z z))
 have h:=Qat Ab h;refine rB k 9 z Ab fun k=>fl Quf t13 m 0 Ad k z z fun a k=>sv k z (Qg7 Qul k z z) fun a k=>sv k z (Qam t13 (r:=[]) (Aa.at (m.a00 Aa.lt1) 1 1 z z z) k z z) fun a k=>pN 3 k z fun a k=>Qak (decide (t1.fD > x2.fD)) (fun Ac=>?_) (fun Ac=>?_)
 · have h:=Qas Ac h;refine rB k 16 z Ac fun k=>pN 17 k z fun a k=>?_;have k:=k.keep [3] z;refine nn (wp_ret (fS h k m z z))
 have h:=Qat Ac h;refine rB k 16 z Ac fun k=>fl Qt1 t13 m 0 Ad k z z fun a k=>sv k z (Qg7 Qv1 k z z) fun a k=>sv k z (Qam t13 (r:=[]) (Aa.at (m.a00 Aa.lt1) 2 1 z z z) k z z) fun a k=>pN 3 k z fun a k=>Qak (decide (t1.fH > x2.fH)) (fun Ae=>?_) (fun Ae=>?_)
 · have h:=Qas Ae h;refine rB k 23 z Ae fun k=>pN 10 k z fun a k=>?_;have k:=k.keep [3] z;refine nn (wp_ret (fS h k m z z))
 have h:=Qat Ae h;refine rB k 23 z Ae fun k=>fl Q0z t13 m 0 Ad k z z fun a k=>fl Qu5 t13 m 0 Ad k z z fun a k=>pN 1 k z fun a k=>sv k z (Qg7 Qt0 k z z) fun a k=>sv k z (Qam t13 (r:=[]) (Aa.at (m.a00 Aa.lt1) 3 1 z z z) k z z) fun a k=>pN 3 k z fun a k=>?_;have k:=k.keep [3] z;refine nn (wp_ret (fS h k m z z))
theorem Q3w (fu:Nat) {w0:World} (r1:Request) {Af:List Value} {F3:List Nat} (Av:rd w0 F3 Af r1) {r:Int}
    (h:Qsn fu r1 = some r) :
    Calls Tryz.prog 48 #[.agg Af.toArray] w0 fun e w=>e = .returned (I r) ∧ Ext [] w0 w:=by
 refine en (vs:=[_]) func48 z ntmps48 z fun a k m=>?_;obtain ⟨v5,F6,v7,F8,v9,Bq,rfl,rfl,Ad,Ab,Aa⟩:=Av;unfold Qsn at h;refine wr (Qa1 (cs:=(cR r1 v5 v7 v9)) m k z z z z z z fun Bs Bv a k m e Ac=>pN 1 k z fun a k=>nn (wr (sv k z (rL Qdu m 0 Ac 0 k z) fun a k=>oE h fun Ae Ah h=>cC k m call125 z (Qup fu _ (Qah (m.r Ad) (m.r Ab) (m.r Aa)) Ah) fun Bo e a k m=>?_)));refine pN 3 k z fun a k=>Qan (cs:=[I 0,I 0,I 0,I 0,I 0,I 0,I 0]) m k zeroValue76 z z z z z fun Ag Bc a k m e Ai=>sT (cs':=[I Ae.1.f8,I Ae.1.fW,I Ae.1.fH,I Ae.1.fD,I Ae.1.f7,I Ae.1.fV,I Ae.1.fK]) sizeOf76 m 0 Ai 0 k z z fun Bb a k e m Al=>pN 1 k z fun a k=>nn (wr (sv k z (Qg7 Qqy k z z) fun a k=>sv k z (rL Q2z m 1 Ac 1 k z) fun a k=>Qan (cs:=[I 0,I 0,I 0,I 0]) m k zeroValue25 z z z z z fun As Bp a k m e Aw=>?_))
 refine sT (cs':=[I r1.fQ.fW,I r1.fQ.fD,I r1.fQ.fH,I r1.fQ.fV]) sizeOf25 m 0 Aw 0 k z z fun Bl a k e m Ak=>nn (wp_seq (wp_block (wr (sv k z (rL Qdu m 2 Ac 0 k z) fun a k=>oE h fun Bh Az h=>cC k m call126 z (Qye fu _ (Qah (m.r Ad) (m.r Ab) (m.r Aa)) Az) fun Bj e a k m=>pN 2 k z fun a k=>nn ?_))));refine cI h k z (fun Am h=>?_) fun Am h=>?_
 · refine wr (pN 1 k z fun a k=>nn (wp_ret (Qaf (Qad ?_))));refine fS h k m z z
 refine wr (sv k z (rL Qdu m 2 Ac 0 k z) fun a k=>oE h fun Be Ay h=>cC k m call127 z (Q0n fu _ (Qah (m.r Ad) (m.r Ab) (m.r Aa)) Ay) fun Bw e a k m=>pN 2 k z fun a k=>nn (cI h k z (fun Ax h=>?_) fun Ax h=>?_))
 · refine wr (pN 1 k z fun a k=>nn (wp_ret (Qaf (Qad ?_))));refine fS h k m z z
 refine wr (fl Qn2 Q02 m 2 Ac k z z fun a k=>fl Qtq t13 m 2 Ac k z z fun a k=>oE h fun Bm Ap h=>cC k m call128 z (Q0a fu _ _ (m.r Ad) Ap) fun Bu e a k m=>pN 2 k z fun a k=>?_);have k:=k.keep [1,3,5,21] z;refine nn (cI h k z (fun Au h=>?_) fun Au h=>?_)
 · refine wr (pN 1 k z fun a k=>nn (wp_ret (Qaf (Qad ?_))));refine fS h k m z z
 refine wr (fl Qgw Qvf m 2 Ac k z z fun a k=>pN 1 k z fun a k=>oE h fun Bt Aj h=>cC k m call129 z (Qcd fu _ _ (m.r Aa) ⟨130,[pt Ag],z,call130,fun w Bf Bd r e Ar hx=>by subst Ar; have m:=m.step e; exact Q0g fu _ _ (Al.agr (m.a 1 rfl) (by simp)) hx⟩ Aj) fun Bk e a k m=>pN 1 k rfl fun a k=>nn (cI h k rfl (fun Ba h=>?_) fun Ba h=>?_))
 · refine wr (pN 1 k z fun a k=>nn (wp_ret (Qaf (Qad ?_))));refine fS h k m z z
 refine wr (fl Qec Qus m 2 Ac k z z fun a k=>pN 1 k z fun a k=>oE h fun Bi Aq h=>cC k m call132 z (Qdj fu _ _ (m.r Ab) ⟨133,[pt As],z,call133,fun w Bg Bn r e At hx=>by subst At; have m:=m.step e; exact Qz5 fu _ _ (Ak.agr (m.a 0 rfl) (by simp)) hx⟩ Aq) fun Br e a k m=>pN 1 k rfl fun a k=>nn (cI h k rfl (fun Ao h=>?_) fun Ao h=>?_))
 · refine wr (pN 1 k z fun a k=>nn (wp_ret (Qaf (Qad ?_))));refine fS h k m z z
 refine wp_skip (Qae (Qaa ?_));refine wr (pN 1 k z fun a k=>nn (wp_ret (fS h k m z z)))
theorem Qnu (fu:Nat) {w0:World} (r1:Request) {Ac:List Value} {F3:List Nat} (Af:rd w0 F3 Ac r1) {r:Bool}
    (h:Qgn fu r1 = some r) :
    Calls Tryz.prog 75 #[.agg Ac.toArray] w0 fun e w=>e = .returned (.bool (r)) ∧ Ext [] w0 w:=by
 refine en (vs:=[_]) func75 z ntmps75 z fun a k m=>?_;obtain ⟨v5,F6,v7,F8,v9,Aj,rfl,rfl,Ab,Aa,Ad⟩:=Af;unfold Qgn at h;refine wr (Qa1 (cs:=(cR r1 v5 v7 v9)) m k z z z z z z fun Ai Ak a k m e Ag=>pN 1 k z fun a k=>nn (wr (sv k z (rL Qdu m 0 Ag 0 k z) fun a k=>oE h fun Al Ae h=>cC k m call48 z (Q3w fu _ (Qah (m.r Ab) (m.r Aa) (m.r Ad)) Ae) fun Ah e a k m=>?_)));refine pN 2 k z fun a k=>nn (wp_ret (fS h k m z z))
theorem Qw0 (fu:Nat) {w0:World} (Ac:List Int) {v2:Value} {F3:List Nat} (Aa:rd w0 F3 [v2] Ac) {r:Bool}
    (h:Qj8 fu Ac = some r) :
    Calls Tryz.prog 230 #[v2] w0 fun e w=>e = .returned (.bool (r)) ∧ Ext [] w0 w:=by
 refine en (vs:=[_]) func230 z ntmps230 z fun a k m=>?_;unfold Qj8 at h;refine wr (pN 1 k z fun a k=>nn (wp_seq (wr (pN 1 k z fun a k=>sv k z (Qaw (α:=Int) Aa k underlying37 z z) fun a k=>pN 1 k z fun a k=>nn (wp_block (Qap (fun n a w=>∃ (Ab:Int),K 32 [(0,v2),(5,v2),(6,I (Ac.length:Int)),(7,I Ab)] a ∧ St [] w0 w [] ∧ Qdi fu Ac n Ab = some r) ?_ ?_ fu _ _ ?_))))))
 · rintro a w ⟨_,_,_,h⟩;exact nS h
 · rintro Ai a Aq ⟨Ab,k,m,h⟩;rw [Qdi.eq_2] at h;unfold Qh6 at h;refine wr (pN 1 k z fun a k=>nn (wp_seq (cI h k z (fun Ak h=>?_) fun Ak h=>?_)))
   · refine wp_skip (Qaa ?_);refine Qce (fun a w=>K 32 [(0,v2),(5,v2),(6,I (Ac.length:Int)),(7,I Ab)] a ∧ St [] w0 w [] ∧ Qg5 fu (Qdi fu Ac Ai) Ab = some r) ?_ ?_
     · rintro a Ar ⟨k,m,h⟩;unfold Qg5 at h;refine wp_region_lit (pN 2 k z fun a k=>nn ?_);exact ⟨w64 (Ab + 1),k.keep [0,5,6,7] z,m.sl [] z,h⟩
     refine wp_block (wr (pN 1 k z fun a k=>oE h fun Am Af h=>sv k z (Qaj Aa Af k Qhk z z z) fun a k=>sv k z (Qau Aa (m.a00 (Enc.rd_lt Aa)) Af 0 t13 k z z z z) fun a k=>pN 2 k z fun a k=>nn (wr (pN 1 k z fun a k=>oE h fun Al Ah h=>cC k m call135 z (Qcp fu _ _ _  Ah) fun Ao e a k m=>pN 2 k z fun a k=>Qak (!Al) (fun Ad=>?_) (fun Ad=>?_)))))
     · have h:=Qas Ad h;refine rB k 15 z Ad fun k=>pN 12 k z fun a k=>nn (wp_cond_true (k.ev z) (wr (pN 1 k z fun a k=>nn (wp_ret (Qaf (Qad (Qad (Qaf (Qad ?_)))))))));refine fS h k m z z
     have h:=Qat Ad h;refine rB k 15 z Ad fun k=>pN 3 k z fun a k=>Qak (decide (Ab > 0)) (fun Ae=>?_) (fun Ae=>?_)
     · have h:=Qas Ae h;refine rB k 18 z Ae fun k=>pN 3 k z fun a k=>oE h fun Ap Ag h=>sv k z (Qaj Aa Ag k Qhk z z z) fun a k=>sv k z (Qau Aa (m.a00 (Enc.rd_lt Aa)) Ag 0 t13 k z z z z) fun a k=>pN 4 k z fun a k=>nn (cI h k z (fun Aj h=>?_) fun Aj h=>?_)
       · refine wr (pN 1 k z fun a k=>nn (wp_ret (Qaf (Qad (Qad (Qaf (Qad ?_)))))));refine fS h k m z z
       refine wp_skip (Qae (Qaa ?_));exact ⟨k.keep [0,5,6,7] z,m.sl [] z,h⟩
     have h:=Qat Ae h;refine rB k 18 z Ae fun k=>pN 9 k z fun a k=>nn (wp_cond_false (k.ev z) (wp_skip (Qae (Qaa ?_))));exact ⟨k.keep [0,5,6,7] z,m.sl [] z,h⟩
   refine wp_exit (Qag (Qag (Qal (Qaa ?_))));refine wr (pN 1 k z fun a k=>sv k z (Qaw (α:=Int) Aa k underlying37 z z) fun a k=>pN 2 k z fun a k=>nn (wp_ret (fS h k m z z)))
 exact ⟨0,k.keep [0,5,6,7] z,m.sl [] z,h⟩
theorem Qdf (fu:Nat) {w0:World} (n1:Int)  {r:Bool}
    (h:Qb5 fu n1 = some r) :
    Calls Tryz.prog 231 #[I n1] w0 fun e w=>e = .returned (.bool (r)) ∧ Ext [] w0 w:=by
 refine en (vs:=[_]) func231 z ntmps231 z fun a k m=>?_;unfold Qb5 at h;refine wr (pN 1 k z fun a k=>nn (wr (pN 1 k z fun a k=>oE h fun x2 Aa h=>cC k m call135 z (Qcp fu _ _ _  Aa) fun w5 e a k m=>pN 1 k z fun a k=>nn (wp_ret (fS h k m z z)))))
theorem Q2t (fu:Nat) {w0:World} (x1:Plan) {As:List Value} {F3:List Nat} (Bn:rd w0 F3 As x1) {r:Bool}
    (h:Qr1 fu x1 = some r) :
    Calls Tryz.prog 140 #[.agg As.toArray] w0 fun e w=>e = .returned (.bool (r)) ∧ Ext [] w0 w:=by
 refine en (vs:=[_]) func140 z ntmps140 z fun a k m=>?_;obtain ⟨v5,F6,v7,F8,rfl,rfl,Aa,Am⟩:=Bn;unfold Qr1 at h;refine wr (Qa1 (cs:=[v5,v7]) m k z z z z z z fun Ab Ap a k m e Ad=>pN 1 k z fun a k=>nn (Qce (fun a w=>K 73 [(1,pt Ab)] a ∧ St [] w0 w [([Ab],Ap)] ∧ Qp5 fu x1 = some r) ?_ ?_))
 · rintro a Cf ⟨k,m,h⟩;unfold Qp5 at h;refine wp_seq (wr (fl Qbn Qme m 0 Ad k z z fun a k=>sv k z (Qaw (α:=Carton) Aa k underlying49 z z) fun a k=>pN 1 k z fun a k=>nn (wp_block (Qap (fun n a w=>∃ (Ac:Int),K 73 [(1,pt Ab),(20,v5),(21,I (x1.fJ.length:Int)),(22,I Ac)] a ∧ St [] w0 w [([Ab],Ap)] ∧ Qfw fu x1 n Ac = some r) ?_ ?_ fu _ _ ?_))))
   · rintro a w ⟨_,_,_,h⟩;exact nS h
   · rintro Bk a Bw ⟨Ac,k,m,h⟩;rw [Qfw.eq_2] at h;unfold Qmt at h;refine wr (pN 1 k z fun a k=>nn (wp_seq (cI h k z (fun Ax h=>?_) fun Ax h=>?_)))
     · refine wp_skip (Qaa ?_);refine Qce (fun a w=>K 73 [(1,pt Ab),(20,v5),(21,I (x1.fJ.length:Int)),(22,I Ac)] a ∧ St [] w0 w [([Ab],Ap)] ∧ Qp6 fu (Qfw fu x1 Bk) Ac = some r) ?_ ?_
       · rintro a Cl ⟨k,m,h⟩;unfold Qp6 at h;refine wp_region_lit (pN 2 k z fun a k=>nn ?_);exact ⟨w64 (Ac + 1),k.keep [1,20,21,22] z,m.sl [0] z,h⟩
       refine wp_block (wr (pN 1 k z fun a k=>oE h fun Au At h=>sv k z (Qaj Aa At k Qs3 z z z) fun a k=>?_));obtain ⟨Ce,Ci,By,Bg,Bf,Aw⟩:=Qbm Aa (Qar At).2.2;obtain ⟨Bh,_,rfl,rfl,Ar⟩:=Bg;refine sv k z (Qbp Qwc (Bf.agr (m.a00 (Enc.rd_lt Aa)) Aw) z k z z) fun a k=>Qan (cs:=[I 0,I 0,.slice none 0 0]) m k zeroValue66 z z z z z fun Ch Cm a k m e Bs=>pN 1 k z fun a k=>sT (cs':=[I Au.fO,I Au.fE,Bh]) sizeOf66 m 0 Bs 0 k z (Qa7 z (Qa7 z (Qa7 (Qcw Ar) Qpd))) fun Bz a k e m Aq=>nn (wr (fl Qcy Qs5 m 1 Ad k z z fun a k=>pN 1 k z fun a k=>oE h fun Al Av h=>sv k z (Qaj Am Av k Qvc z z z) fun a k=>sv k z (Qic Am (m.a00 (Enc.rd_lt Am)) Av Qx6 k z z) fun a k=>?_));refine Qan (cs:=[I 0,I 0,I 0,I 0]) m k zeroValue59 z z z z z fun Cg Ca a k m e Bp=>sT (cs':=[I Al.fQ,I Al.fX,I Al.fY,I Al.fZ]) sizeOf59 m 0 Bp 0 k z z fun Cn a k e m Ao=>nn (wr (fl Qti t13 m 1 Aq k z z fun a k=>oE h fun Ba Bq h=>cC k m call135 z (Qcp fu _ _ _  Bq) fun Bu e a k m=>pN 2 k z fun a k=>Qak (!Ba) (fun Af=>?_) (fun Af=>?_)))
       · have h:=Qas Af h;refine rB k 36 z Af fun k=>pN 35 k z fun a k=>?_;have k:=k.keep [1,20,21,22,71] z;refine nn (wp_cond_true (k.ev z) (wr (pN 1 k z fun a k=>nn (wp_ret (Qaf (Qad (Qad (Qaf (Qad ?_)))))))));refine fS h k m z z
       have h:=Qat Af h;refine rB k 36 z Af fun k=>fl Qtg t13 m 1 Aq k z z fun a k=>oE h fun Bb Bi h=>cC k m call135 z (Qcp fu _ _ _  Bi) fun Cd e a k m=>pN 3 k z fun a k=>Qak (!Bb) (fun Ae=>?_) (fun Ae=>?_)
       · have h:=Qas Ae h;refine rB k 42 z Ae fun k=>pN 29 k z fun a k=>?_;have k:=k.keep [1,20,21,22,71] z;refine nn (wp_cond_true (k.ev z) (wr (pN 1 k z fun a k=>nn (wp_ret (Qaf (Qad (Qad (Qaf (Qad ?_)))))))));refine fS h k m z z
       have h:=Qat Ae h;refine rB k 42 z Ae fun k=>fl Qiq Qr7 m 1 Aq k z z fun a k=>oE h fun Bt Bj h=>cC k m call230 z (Qw0 fu _ (m.r Ar) Bj) fun Cc e a k m=>pN 3 k z fun a k=>Qak (!Bt) (fun Ak=>?_) (fun Ak=>?_)
       · have h:=Qas Ak h;refine rB k 48 z Ak fun k=>pN 23 k z fun a k=>?_;have k:=k.keep [1,20,21,22,71] z;refine nn (wp_cond_true (k.ev z) (wr (pN 1 k z fun a k=>nn (wp_ret (Qaf (Qad (Qad (Qaf (Qad ?_)))))))));refine fS h k m z z
       have h:=Qat Ak h;refine rB k 48 z Ak fun k=>fl Qs8 t13 m 0 Ao k z z fun a k=>oE h fun Ay Be h=>cC k m call231 z (Qdf fu _  Be) fun Cj e a k m=>pN 3 k z fun a k=>Qak (!Ay) (fun Ag=>?_) (fun Ag=>?_)
       · have h:=Qas Ag h;refine rB k 54 z Ag fun k=>pN 17 k z fun a k=>?_;have k:=k.keep [1,20,21,22,71] z;refine nn (wp_cond_true (k.ev z) (wr (pN 1 k z fun a k=>nn (wp_ret (Qaf (Qad (Qad (Qaf (Qad ?_)))))))));refine fS h k m z z
       have h:=Qat Ag h;refine rB k 54 z Ag fun k=>fl Qso t13 m 0 Ao k z z fun a k=>oE h fun Bo Bl h=>cC k m call231 z (Qdf fu _  Bl) fun Cb e a k m=>pN 3 k z fun a k=>Qak (!Bo) (fun Ai=>?_) (fun Ai=>?_)
       · have h:=Qas Ai h;refine rB k 60 z Ai fun k=>pN 11 k z fun a k=>?_;have k:=k.keep [1,20,21,22,71] z;refine nn (wp_cond_true (k.ev z) (wr (pN 1 k z fun a k=>nn (wp_ret (Qaf (Qad (Qad (Qaf (Qad ?_)))))))));refine fS h k m z z
       have h:=Qat Ai h;refine rB k 60 z Ai fun k=>fl Qs4 t13 m 0 Ao k z z fun a k=>oE h fun Bm Bc h=>cC k m call231 z (Qdf fu _  Bc) fun Ck e a k m=>pN 3 k z fun a k=>Qak (!Bm) (fun Ah=>?_) (fun Ah=>?_)
       · have h:=Qas Ah h;refine rB k 66 z Ah fun k=>pN 5 k z fun a k=>?_;have k:=k.keep [1,20,21,22,71] z;refine nn (wp_cond_true (k.ev z) (wr (pN 1 k z fun a k=>nn (wp_ret (Qaf (Qad (Qad (Qaf (Qad ?_)))))))));refine fS h k m z z
       have h:=Qat Ah h;refine rB k 66 z Ah fun k=>fl Qs9 t13 m 0 Ao k z z fun a k=>oE h fun Bv Az h=>cC k m call231 z (Qdf fu _  Az) fun Bx e a k m=>pN 2 k z fun a k=>?_;have k:=k.keep [1,20,21,22,71] z;refine nn (cI h k z (fun Br h=>?_) fun Br h=>?_)
       · refine wr (pN 1 k z fun a k=>nn (wp_ret (Qaf (Qad (Qad (Qaf (Qad ?_)))))));refine fS h k m z z
       refine wp_skip (Qae (Qaa ?_));exact ⟨k.keep [1,20,21,22] z,m.sl [2] z,h⟩
     refine wp_exit (Qag (Qag (Qal (Qaa ?_))));refine wr (pN 1 k z fun a k=>nn (wp_ret (fS h k m z z)))
   exact ⟨0,k.keep [1,20,21,22] z,m.sl [0] z,h⟩
 refine wr (fl Qcy Qs5 m 0 Ad k z z fun a k=>sv k z (Qaw (α:=Spot) Am k underlying50 z z) fun a k=>fl Qbn Qme m 0 Ad k z z fun a k=>sv k z (Qaw (α:=Carton) Aa k underlying49 z z) fun a k=>pN 2 k z fun a k=>Qak ((x1.fU.length:Int) != (x1.fJ.length:Int)) (fun Aj=>?_) (fun Aj=>?_))
 · have h:=Qas Aj h;refine rB k 13 z Aj fun k=>pN 5 k z fun a k=>nn (wp_cond_true (k.ev z) (wr (pN 1 k z fun a k=>nn (wp_ret (Qad ?_)))));refine fS h k m z z
 have h:=Qat Aj h;refine rB k 13 z Aj fun k=>fl Qbn Qme m 0 Ad k z z fun a k=>sv k z (Qaw (α:=Carton) Aa k underlying49 z z) fun a k=>pN 2 k z fun a k=>nn (cI h k z (fun Bd h=>?_) fun Bd h=>?_)
 · refine wr (pN 1 k z fun a k=>nn (wp_ret (Qad ?_)));refine fS h k m z z
 refine wp_skip (Qaa ?_);exact ⟨k.keep [1] z,m.sl [0] z,h⟩
end Go.Proofs.YthddjkokpfdbnaaGreat
