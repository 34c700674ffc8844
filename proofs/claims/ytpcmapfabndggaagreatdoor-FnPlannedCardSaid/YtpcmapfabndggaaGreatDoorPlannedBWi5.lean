/- FnPlanned: the walks.. -/
import Derived.Test.YtpcmapfabndggaaGreatDoorPlannedBWi4
set_option maxRecDepth 20000
set_option linter.unusedSimpArgs false
set_option linter.unusedVariables false
set_option linter.unnecessarySimpa false
namespace Go.Proofs.YtpcmapfabndggaaGreatDoor
open Go Go.RowKit
open Enc (rd ow)
open Arg (argv)
open Ret (retv)
open Go.Proofs.Tryz
theorem Qyw (fu:Nat) {w0:World} (r1:Request) (x5:Plan) {Au:List Value} {F3:List Nat} (Ba:rd w0 F3 Au r1) {At:List Value} {F7:List Nat} (Bv:rd w0 F7 At x5) {r:Int}
    (h:Qol fu r1 x5=some r) :
    Calls Tryz.prog 10 #[.agg Au.toArray,.agg At.toArray] w0 λe w=>e=.returned (I r)∧Ext [] w0 w:=by
 refine en (vs:=[_,_]) func10 z ntmps10 z λa k m=>?_;obtain ⟨v9,Dc,Aj,Cq,Ag,Cm,rfl,rfl,Ab,Ae,Ac⟩:=Ba;obtain ⟨Ak,De,Ah,Db,rfl,rfl,Aa,Ad⟩:=Bv;unfold Qol at h;refine wr (Qbg (cs:=(cR r1 v9 Aj Ag)) m k z z z z z z λAs Az a k m e Al=>Qbg (cs:=[Ak,Ah]) m k z z z z z z λAv Bo a k m e Ai=>pN 1 k z λa k=>nn (wp_seq (wr (sv k z (rL Qfl m 1 Al 0 k z) λa k=>oE h λCb Bf h=>?_))));refine cC k m call21 z (Qiy fu _ (Qah (m.r Ab) (m.r Ae) (m.r Ac)) Bf) λCu e a k m=>pN 1 k z λa k=>nn (cI h k z (λBh h=>?_) λBh h=>?_)
 · refine wr (pN 1 k z λa k=>nn (wp_ret (Qad ?_)));refine fS h k m z z
 refine wp_skip (Qaa ?_);refine Qc1 (λa w=>K 38 [(2,pt As),(3,pt Av)] a∧St [] w0 w [([As],Az),([Av],Bo)]∧Qrf fu r1 x5=some r) ?_ ?_
 · rintro a Da ⟨k,m,h⟩;unfold Qrf at h;refine wr (sv k z (rL Q08 m 1 Ai 0 k z) λa k=>oE h λCp Ax h=>sC k call35 z (Qvn fu _ (Qs2 (m.r Aa) (m.r Ad)) Ax) λCo Ca hR=>?_);obtain ⟨Bx,Br,rfl,e,Ap,Bt⟩:=hR;refine ⟨_,z,λa k=>?_⟩;have m:=m.nw e Bt Ap;refine pN 1 k z λa k=>nn (wr (pN 1 k z λa k=>oE h λBz Bu h=>sC k call36 z (Qhn fu _ (m.v Ap 0 z) Bu) λBy Cy hR=>?_));obtain ⟨Cc,rfl,e,Be,Aq⟩:=hR;refine ⟨_,z,λa k=>?_⟩;have m:=m.mut 0 z e _ (λb hb=>⟨Be b hb,Enc.rd_lt (Enc.ow_rd Aq) b hb⟩) (Enc.ow_nd Aq);refine nn (wp_seq (wr (pN 1 k z λa k=>sv k z (rL Qfl m 1 Al 0 k z) λa k=>oE h λCw Bn h=>sC k call39 z (Qsy fu _ (Qah (m.r Ab) (m.r Ae) (m.r Ac)) Bn) λCk Ce hR=>?_)));obtain ⟨Ch,Bm,rfl,e,Ao,Aw⟩:=hR;refine ⟨_,z,λa k=>?_⟩;have m:=m.nw e Aw Ao;refine sv k z (Qa2 (α:=Int) (Enc.ow_rd Ao) k underlying41 z z) λa k=>oE h λCn Bb h=>sC k call38 z (Quq fu _  Bb) λCv Cd hR=>?_;obtain ⟨Cg,Bi,rfl,e,Ar,Bk⟩:=hR;refine ⟨_,z,λa k=>?_⟩;have m:=m.nw e Bk Ar
   refine oE h λBw Bp h=>cC k m call37 z (Qu8 fu _ _ (m.q Aq 2 z) (m.q Ar 0 z) Bp) λCl e a k m=>pN 1 k z λa k=>nn (cI h k z (λBd h=>?_) λBd h=>?_)
   · refine wr (pN 1 k z λa k=>nn (wp_ret (Qad ?_)));refine fS h k m z z
   refine wp_skip (Qaa ?_);refine wp_seq (wr (sv k z (rL Qfl m 3 Al 0 k z) λa k=>sv k z (rL Q08 m 4 Ai 0 k z) λa k=>oE h λCi Bl h=>cC k m call40 z (Qxe fu _ _ (Qah (m.r Ab) (m.r Ae) (m.r Ac)) (Qs2 (m.r Aa) (m.r Ad)) Bl) λDd e a k m=>pN 1 k z λa k=>nn (wr (pN 2 k z λa k=>nn ?_))));refine cI h k z (λBg h=>?_) λBg h=>?_
   · refine wr (pN 2 k z λa k=>nn (wp_ret (Qad ?_)));refine fS h k m z z
   refine wp_skip (Qaa ?_);refine wr (sv k z (rL Qfl m 3 Al 0 k z) λa k=>sv k z (rL Q08 m 4 Ai 0 k z) λa k=>oE h λCz Bs h=>cC k m call41 z (Qy3 fu _ _ (Qah (m.r Ab) (m.r Ae) (m.r Ac)) (Qs2 (m.r Aa) (m.r Ad)) Bs) λCx e a k m=>pN 1 k z λa k=>nn (wp_ret (fS h k m z z)))
 refine wr (sv k z (rL Q08 m 0 Ai 0 k z) λa k=>oE h λBc Ay h=>cC k m call12 z (Qut fu _ (Qs2 (m.r Aa) (m.r Ad)) Ay) λCf e a k m=>pN 2 k z λa k=>Qam (!Bc) (λAf=>?_) (λAf=>?_))
 · have h:=Qax Af h;refine rB k 13 z Af λk=>pN 4 k z λa k=>nn (wp_cond_true (k.ev z) (wr (pN 1 k z λa k=>nn (wp_ret (Qad ?_)))));refine fS h k m z z
 have h:=Qay Af h;refine rB k 13 z Af λk=>fl Qmz Qy8 m 0 Ai k z z λa k=>oE h λCr Bj h=>cC k m call33 z (Qks fu _ _ (m.r Aa) ⟨34,[],z,call34,λw Cs Cj r e Am hx=>by obtain ⟨_,_,rfl,Am⟩:=Am; have m:=m.step e; exact Q1m fu _ Am hx⟩ Bj) λCt e a k m=>pN 1 k z λa k=>nn (cI h k z (λBq h=>?_) λBq h=>?_)
 · refine wr (pN 1 k z λa k=>nn (wp_ret (Qad ?_)));refine fS h k m z z
 refine wp_skip (Qaa ?_);exact ⟨k.keep [2,3] z,m.sl [1,0] z,h⟩
theorem Q0b (fu:Nat) {w0:World} (r1:Request) (x5:Plan) {Ag:List Value} {F3:List Nat} (Aq:rd w0 F3 Ag r1) {Ak:List Value} {F7:List Nat} (Ao:rd w0 F7 Ak x5) {r:Bool}
    (h:Qos fu r1 x5=some r) :
    Calls Tryz.prog 11 #[.agg Ag.toArray,.agg Ak.toArray] w0 λe w=>e=.returned (.bool (r))∧Ext [] w0 w:=by
 refine en (vs:=[_,_]) func11 z ntmps11 z λa k m=>?_;obtain ⟨v9,Ax,Ab,As,Af,Az,rfl,rfl,Ad,Ah,Ai⟩:=Aq;obtain ⟨Ac,Ay,Aj,At,rfl,rfl,Aa,Ae⟩:=Ao;unfold Qos at h;refine wr (Qbg (cs:=(cR r1 v9 Ab Af)) m k z z z z z z λAr Bb a k m e Ap=>Qbg (cs:=[Ac,Aj]) m k z z z z z z λBa Au a k m e Al=>pN 1 k z λa k=>nn (wr (sv k z (rL Qfl m 1 Ap 0 k z) λa k=>sv k z (rL Q08 m 0 Al 0 k z) λa k=>oE h λAv Am h=>?_)));refine cC k m call10 z (Qyw fu _ _ (Qah (m.r Ad) (m.r Ah) (m.r Ai)) (Qs2 (m.r Aa) (m.r Ae)) Am) λAw e a k m=>pN 2 k z λa k=>nn (wp_ret (fS h k m z z))
theorem Q22 (fu:Nat) {w0:World} (u1:Int) (x2:List Int) {v5:Value} {F6:List Nat} {b3:Nat} (Ab:bx w0 b3 [v5] 41) (Aa:rd w0 F6 [v5] x2) {r:Bool}
    (h:Qro fu u1 x2=some r) :
    Calls Tryz.prog 46 #[I u1,pt b3] w0 λe w=>e=.returned (.bool (r))∧Ext [] w0 w:=by
 refine en (vs:=[_,_]) func46 z ntmps46 z λa k m=>?_;unfold Qro at h;refine wr (pN 1 k z λa k=>nn (wr (sv k z (Qan Qr1 (r:=[]) (Ab.at (m.a00 Ab.lt1) 0 1 z z z) k z z) λa k=>pN 1 k z λa k=>oE h λx8 Ac h=>cC k m call47 z (Qjk fu _ _ (m.r Aa) Ac) λAd e a k m=>pN 1 k z λa k=>nn (wp_ret (fS h k m z z)))))
theorem Q6l (fu:Nat) {w0:World} (r1:Request) (x5:Plan) {Al:List Value} {F3:List Nat} (Bi:rd w0 F3 Al r1) {Aq:List Value} {F7:List Nat} (Bb:rd w0 F7 Aq x5) {r:(List Int)}
    (h:Qts fu r1 x5=some r) :
    Calls Tryz.prog 13 #[.agg Al.toArray,.agg Aq.toArray] w0 λe w=>∃ (v0:Value) (G0:List Nat),e=.returned (v0)∧Ext [] w0 w∧ow w G0 [v0] r∧(∀ b∈G0,w0.heap.size≤b):=by
 refine en (vs:=[_,_]) func13 z ntmps13 z λa k m=>?_;obtain ⟨v9,Cd,Ag,Bn,Ak,Cg,rfl,rfl,Ai,Am,Ao⟩:=Bi;obtain ⟨Ah,Ce,Ap,Bv,rfl,rfl,Ae,Aj⟩:=Bb;unfold Qts at h;refine wr (Qbg (cs:=(cR r1 v9 Ag Ak)) m k z z z z z z λBm Ci a k m e Bf=>Qbg (cs:=[Ah,Ap]) m k z z z z z z λCh Bw a k m e As=>pN 1 k z λa k=>nn (wr (sv k z (rL Q08 m 0 As 0 k z) λa k=>oE h λCb Ay h=>sC k call35 z (Qvn fu _ (Qs2 (m.r Ae) (m.r Aj)) Ay) λCa Cc hR=>?_)));obtain ⟨At,Aw,rfl,e,Aa,Bk⟩:=hR;refine ⟨_,z,λa k=>?_⟩;have m:=m.nw e Bk Aa;refine Qar (cs:=[.slice none 0 0]) m k zeroValue41 z z z z z λAu Bz a k m e Az=>Qm7 (cs':=[At]) sizeOf41 m 0 Az 0 k (Qrb (Enc.ow_rd Aa)) (Qhs (Enc.ow_rd Aa)) z z z z z z z z z λBr a k e m Ba=>nn (wr (sv k z (rL Qfl m 3 Bf 0 k z) λa k=>oE h λBo Bg h=>sC k call39 z (Qsy fu _ (Qah (m.r Ai) (m.r Am) (m.r Ao)) Bg) λCf Cm hR=>?_));obtain ⟨Bl,Be,rfl,e,Ad,Bd⟩:=hR;refine ⟨_,z,λa k=>?_⟩;have m:=m.nw e Bd Ad
 refine sv k z (Qa2 (α:=Int) (Enc.ow_rd Ad) k underlying41 z z) λa k=>oE h λBs Ar h=>sC k call38 z (Quq fu _  Ar) λBx Cl hR=>?_;obtain ⟨Cj,Af,rfl,e,Ab,Bc⟩:=hR;refine ⟨_,z,λa k=>?_⟩;have m:=m.nw e Bc Ab;refine pN 1 k z λa k=>oE h λCk Av h=>sC k call45 z (Qor fu _ _ (m.v Ab 0 z) ⟨46,[pt Au],z,call46,λw Bu Bt r e Bj hx=>by subst Bj; have m:=m.mut 0 rfl e Af (λb hb=>⟨.inl hb,e.lt1 (m.ltF 0 rfl) b hb⟩) (m.ndF 0 rfl); exact Q22 fu _ _ (Ba.agr (m.a 2 rfl) (by simp)) (Enc.rd_agr (Enc.ow_rd Aa) (m.a 3 rfl)) hx⟩ Av) λBy Bq hR=>?_
 obtain ⟨Bp,Ax,rfl,e,Ac,Bh⟩:=hR;refine ⟨_,z,λa k=>?_⟩;have m:=m.mut 0 z e _ (λb hb=>⟨Bh b hb,Enc.rd_lt (Enc.ow_rd Ac) b hb⟩) (Enc.ow_nd Ac);refine pN 1 k z λa k=>nn (wp_ret ?_);cases h;exact Qct k z (RV.tmp k z) ⟨_,Ax,z,m.ext,(m.v Ac 0 z),(m.fresh 0 z)⟩
theorem Q1n (fu:Nat) {w0:World} (hT:Tb Tryz.prog w0) (x1:Int) {r:ByteArray}
    (h:Qt9 fu x1=some r) :
    Calls Tryz.prog 192 #[I x1] w0 λe w=>e=.returned (.string r)∧Ext [] w0 w :=
  Ji8 (λn h0 h1 w ht=>Tryz.strconv_Itoa n h0 h1 w ht) hT x1 h
theorem Q34 (fu:Nat) {w0:World} (hT:Tb Tryz.prog w0) (n1:Int)  {r:ByteArray}
    (h:Qr3 fu n1=some r) :
    Calls Tryz.prog 109 #[I n1] w0 λe w=>e=.returned (.string (r))∧Ext [] w0 w:=by
 refine en (vs:=[_]) func109 z ntmps109 z λa k m=>?_;unfold Qr3 at h;refine wr (pN 1 k z λa k=>nn (wr (pN 1 k z λa k=>oE h λx2 Aa h=>cC k m call192 z (Q1n fu (m.tb hT) _  Aa) λw5 e a k m=>pN 1 k z λa k=>nn (wp_ret (fS h k m z z)))))
theorem Qzz (fu:Nat) {w0:World} (hT:Tb Tryz.prog w0) (Ad:ByteArray) (Ac:List Int) {v3:Value} {F4:List Nat} (Ab:rd w0 F4 [v3] Ac) {r:ByteArray×Bool}
    (h:Qkj fu Ad Ac=some r) :
    Calls Tryz.prog 48 #[.string (Ad),v3] w0 λe w=>e=.returned (.tuple #[.string (r.1),.bool (r.2)])∧Ext [] w0 w:=by
 refine en (vs:=[_,_]) func48 z ntmps48 z λa k m=>?_;unfold Qkj at h;refine wr (pN 2 k z λa k=>nn (wr (pN 2 k z λa k=>nn (wp_seq (wr (pN 1 k z λa k=>sv k z (Qa2 (α:=Int) Ab k underlying41 z z) λa k=>pN 1 k z λa k=>nn (wp_block (Qap (λn a w=>∃ (Ae:ByteArray) (Aa:Int),K 27 [(6,.string (Ae)),(10,v3),(11,I (Ac.length:Int)),(12,I Aa)] a∧St [] w0 w []∧Qe4 fu Ac n Ae Aa=some r) ?_ ?_ fu _ _ ?_))))))))
 · rintro a w ⟨_,_,_,_,h⟩;exact nS h
 · rintro At a Ap ⟨Ae,Aa,k,m,h⟩;rw [Qe4.eq_2] at h;unfold Qjy at h;refine wr (pN 1 k z λa k=>nn (wp_seq (cI h k z (λAi h=>?_) λAi h=>?_)))
   · refine wp_skip (Qaa ?_);refine wp_seq (wp_block (wr (oE h λAu Af h=>sv k z (Qak Ab Af k Qg6 z z z) λa k=>sv k z (Qaq Ab (m.a00 (Enc.rd_lt Ab)) Af 0 t13 k z z z z) λa k=>pN 1 k z λa k=>nn (wp_seq (wr (pN 1 k z λa k=>oE h λAw Am h=>cC k m call42 z (Qbn fu _ _ _  Am) λAs e a k m=>pN 1 k z λa k=>nn (cI h k z (λAg h=>?_) λAg h=>?_)))))))
     · refine wr (pN 2 k z λa k=>nn (wp_ret (Qad (Qag (Qad (Qad (Qag (Qad ?_))))))));cases h;exact Quu k z (RV.tmp k z) (RV.tmp k z) ⟨z,m.ext⟩
     refine wp_skip (Qaa ?_);refine wp_region_lit (pN 2 k z λa k=>oE h λAq Ak h=>cC k m call109 z (Q34 fu (m.tb hT) _  Ak) λAv e a k m=>oE h λAr Ah h=>sv k z (Q12 Ah k z z z) λa k=>oE h λAl Aj h=>sv k z (Q12 Aj k z z z) λa k=>pN 1 k z λa k=>wpList_nil (Qae (Qaa ?_)));refine wp_region_lit (pN 2 k z λa k=>nn ?_);exact ⟨Al,w64 (Aa+1),k.keep [6,10,11,12] z,m.sl [] z,h⟩
   refine wp_exit (Qaf (Qaf (Qaj (Qaa ?_))));refine wr (pN 1 k z λa k=>oE h λAx Ao h=>sv k z (Q12 Ao k z z z) λa k=>pN 2 k z λa k=>nn (wp_ret ?_));cases h;exact Quu k z (RV.tmp k z) (RV.tmp k z) ⟨z,m.ext⟩
 exact ⟨Ad,0,k.keep [6,10,11,12] z,m.sl [] z,h⟩
theorem Q0f (fu:Nat) {w0:World} (hT:Tb Tryz.prog w0) (x1:Plan) {Am:List Value} {F3:List Nat} (Bf:rd w0 F3 Am x1) {r:ByteArray}
    (h:Qoy fu x1=some r) :
    Calls Tryz.prog 14 #[.agg Am.toArray] w0 λe w=>e=.returned (.string (r))∧Ext [] w0 w:=by
 refine en (vs:=[_]) func14 z ntmps14 z λa k m=>?_;obtain ⟨v5,F6,v7,F8,rfl,rfl,Ab,Ad⟩:=Bf;unfold Qoy at h;refine wr (Qbg (cs:=[v5,v7]) m k z z z z z z λAo Au a k m e Ai=>pN 1 k z λa k=>nn (wp_seq (wr (sv k z (rL Q08 m 0 Ai 0 k z) λa k=>oE h λBy As h=>cC k m call12 z (Qut fu _ (Qs2 (m.r Ab) (m.r Ad)) As) λBh e a k m=>pN 1 k z λa k=>nn (cI h k z (λAx h=>?_) λAx h=>?_)))))
 · refine wr (pN 1 k z λa k=>nn (wp_ret (Qad ?_)));refine fS h k m z z
 refine wp_skip (Qaa ?_);refine wr (pN 1 k z λa k=>nn (wp_seq (wr (fl Qmz Qy8 m 0 Ai k z z λa k=>sv k z (Qa2 (α:=Carton) Ab k underlying32 z z) λa k=>pN 1 k z λa k=>nn (wp_block (Qap (λn a w=>∃ (Aj:ByteArray) (Ae:Int),K 50 [(1,pt Ao),(3,.string (Aj)),(13,v5),(14,I (x1.fV.length:Int)),(15,I Ae)] a∧St [] w0 w [([Ao],Au)]∧Qec fu x1 n Aj Ae=some r) ?_ ?_ fu _ _ ?_))))))
 · rintro a w ⟨_,_,_,_,h⟩;exact nS h
 · rintro Bv a Bn ⟨Aj,Ae,k,m,h⟩;rw [Qec.eq_2] at h;unfold Qj0 at h;refine wr (pN 1 k z λa k=>nn (wp_seq (cI h k z (λAq h=>?_) λAq h=>?_)))
   · refine wp_skip (Qaa ?_);refine wp_seq (wp_block (wr (pN 1 k z λa k=>oE h λAc Ak h=>sv k z (Qak Ab Ak k Q5x z z z) λa k=>?_)));obtain ⟨Bp,Bj,Bm,Ba,Az,Bd⟩:=Qa6 Ab (Qal Ak).2.2;obtain ⟨Bg,_,rfl,rfl,Ah⟩:=Ba;refine sv k z (Qde Q48 (Az.agr (m.a00 (Enc.rd_lt Ab)) Bd) z k z z) λa k=>Qar (cs:=[I 0,I 0,.slice none 0 0]) m k zeroValue56 z z z z z λBi Bw a k m e Av=>pN 1 k z λa k=>sT (cs':=[I Ac.qJ,I Ac.fM,Bg]) sizeOf56 m 0 Av 0 k z (Qbz z (Qbz z (Qbz (Qhs Ah) Qs6))) λBs a k e m Ag=>nn (wr (fl Qta Q7u m 1 Ai k z z λa k=>pN 1 k z λa k=>oE h λAa Al h=>sv k z (Qak Ad Al k Q57 z z z) λa k=>sv k z (Qis Ad (m.a00 (Enc.rd_lt Ad)) Al Q6a k z z) λa k=>?_));refine Qar (cs:=[I 0,I 0,I 0,I 0]) m k zeroValue62 z z z z z λBq Bt a k m e Ay=>sT (cs':=[I Aa.fJ,I Aa.fX,I Aa.fY,I Aa.fZ]) sizeOf62 m 0 Ay 0 k z z λCc a k e m Af=>nn (wr (fl Qv9 t13 m 1 Ag k z z λa k=>fl Qwe t13 m 1 Ag k z z λa k=>fl Qtl t13 m 0 Af k z z λa k=>fl Qxs t13 m 0 Af k z z λa k=>?_))
     refine fl Qxi t13 m 0 Af k z z λa k=>fl Qxq t13 m 0 Af k z z λa k=>sB (cs:=[I Ac.qJ,I Ac.fM,I Aa.fJ,I Aa.fX,I Aa.fY,I Aa.fZ]) (ps:=[(0,.tmp 27),(1,.tmp 29),(2,.tmp 31),(3,.tmp 33),(4,.tmp 35),(5,.tmp 37)]) Qb4 m k z (by exact fC z (fC z (fC z (fC z (fC z (fC z fN)))))) λBz Bx Br a k m e Bc=>?_;have Aw:=Qa5 Bc ([Ac.qJ,Ac.fM,Aa.fJ,Aa.fX,Aa.fY,Aa.fZ]:List Int) z z z;refine fl Qtq Qr1 m 2 Ag k z z λa k=>oE h λCa Ap h=>Qfv Ap Qb4 z m 0 Aw (News.rd (m.r Ah)) z z k z z z z z z z λCb Bo Bk a k e m At=>oE h λBu Be h=>cC k m call48 z (Qzz fu (m.tb hT) _ _ (m.q At 0 z) Be) λBl e a k m=>pN 5 k z λa k=>?_;have k:=k.keep [1,13,14,3,15,7] z;refine nn (wp_region_lit (pN 2 k z λa k=>oE h λAr Bb h=>sv k z (Q12 Bb k z z z) λa k=>pN 1 k z λa k=>wpList_nil (Qae (Qaa ?_))));refine wp_region_lit (pN 2 k z λa k=>nn ?_);exact ⟨Ar,w64 (Ae+1),k.keep [1,3,13,14,15] z,m.sl [3] z,h⟩
   refine wp_exit (Qaf (Qaf (Qaj (Qaa ?_))));refine wr (pN 2 k z λa k=>nn (wp_ret (fS h k m z z)))
 exact ⟨(⟨#[]⟩:ByteArray),0,k.keep [1,3,13,14,15] z,m.sl [0] z,h⟩
end Go.Proofs.YtpcmapfabndggaaGreatDoor
