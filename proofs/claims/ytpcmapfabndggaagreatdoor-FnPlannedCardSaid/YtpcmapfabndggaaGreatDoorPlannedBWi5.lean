/- FnPlanned: the walks.. -/
import Derived.Test.YtpcmapfabndggaaGreatDoorPlannedBWi4
set_option maxRecDepth 20000
set_option linter.unusedSimpArgs false
set_option linter.unusedVariables false
set_option linter.unnecessarySimpa false
namespace Go.Proofs.YtpcmapfabndggaaGreatDoor
open Go Go.RowKit
open Enc (rd ow)
open Arg (argv)
open Ret (retv)
open Go.Proofs.Tryz
theorem Qyr (fu:Nat) {w0:World} (r1:Request) (x5:Plan) {As:List Value} {F3:List Nat} (Ba:rd w0 F3 As r1) {Av:List Value} {F7:List Nat} (Bc:rd w0 F7 Av x5) {r:Int}
    (h:Qoh fu r1 x5=some r) :
    Calls Tryz.prog 10 #[.agg As.toArray,.agg Av.toArray] w0 λe w=>e=.returned (I r)∧Ext [] w0 w:=by
 refine en (vs:=[_,_]) func10 z ntmps10 z λa k m=>?_;obtain ⟨v9,Cc,Ag,By,Aj,Cz,rfl,rfl,Ab,Ae,Ac⟩:=Ba;obtain ⟨Ak,Dd,Ah,Cs,rfl,rfl,Aa,Ad⟩:=Bc;unfold Qoh at h;refine wr (Qbg (cs:=(cR r1 v9 Ag Aj)) m k z z z z z z λAt Bd a k m e Al=>Qbg (cs:=[Ak,Ah]) m k z z z z z z λAu Ay a k m e Ai=>pN 1 k z λa k=>nn (wp_seq (wr (sv k z (rL Qfg m 1 Al 0 k z) λa k=>oE h λCr Bl h=>?_))));refine cC k m call21 z (Qi6 fu _ (Qah (m.r Ab) (m.r Ae) (m.r Ac)) Bl) λDa e a k m=>pN 1 k z λa k=>nn (cI h k z (λBp h=>?_) λBp h=>?_)
 · refine wr (pN 1 k z λa k=>nn (wp_ret (Qad ?_)));refine fS h k m z z
 refine wp_skip (Qaa ?_);refine Qc1 (λa w=>K 38 [(2,pt At),(3,pt Au)] a∧St [] w0 w [([At],Bd),([Au],Ay)]∧Qr5 fu r1 x5=some r) ?_ ?_
 · rintro a Ct ⟨k,m,h⟩;unfold Qr5 at h;refine wr (sv k z (rL Q0f m 1 Ai 0 k z) λa k=>oE h λCj Bn h=>sC k call35 z (Qvv fu _ (Qs2 (m.r Aa) (m.r Ad)) Bn) λBw Cf hR=>?_);obtain ⟨Ch,Bi,rfl,e,Aq,Bt⟩:=hR;refine ⟨_,z,λa k=>?_⟩;have m:=m.nw e Bt Aq;refine pN 1 k z λa k=>nn (wr (pN 1 k z λa k=>oE h λCp Be h=>sC k call36 z (Qhm fu _ (m.v Aq 0 z) Be) λCx Ce hR=>?_));obtain ⟨Cq,rfl,e,Bb,Ao⟩:=hR;refine ⟨_,z,λa k=>?_⟩;have m:=m.mut 0 z e _ (λb hb=>⟨Bb b hb,Enc.rd_lt (Enc.ow_rd Ao) b hb⟩) (Enc.ow_nd Ao);refine nn (wp_seq (wr (pN 1 k z λa k=>sv k z (rL Qfg m 1 Al 0 k z) λa k=>oE h λCk Bq h=>sC k call39 z (Qs3 fu _ (Qah (m.r Ab) (m.r Ae) (m.r Ac)) Bq) λCb Cl hR=>?_)));obtain ⟨Bx,Ax,rfl,e,Ar,Bm⟩:=hR;refine ⟨_,z,λa k=>?_⟩;have m:=m.nw e Bm Ar;refine sv k z (Qa2 (α:=Int) (Enc.ow_rd Ar) k underlying41 z z) λa k=>oE h λCn Bu h=>sC k call38 z (Qur fu _  Bu) λCu Db hR=>?_;obtain ⟨Co,Bo,rfl,e,Am,Bf⟩:=hR;refine ⟨_,z,λa k=>?_⟩;have m:=m.nw e Bf Am
   refine oE h λCv Bg h=>cC k m call37 z (Qu7 fu _ _ (m.q Ao 2 z) (m.q Am 0 z) Bg) λDc e a k m=>pN 1 k z λa k=>nn (cI h k z (λBj h=>?_) λBj h=>?_)
   · refine wr (pN 1 k z λa k=>nn (wp_ret (Qad ?_)));refine fS h k m z z
   refine wp_skip (Qaa ?_);refine wp_seq (wr (sv k z (rL Qfg m 3 Al 0 k z) λa k=>sv k z (rL Q0f m 4 Ai 0 k z) λa k=>oE h λCg Bh h=>cC k m call40 z (Qw7 fu _ _ (Qah (m.r Ab) (m.r Ae) (m.r Ac)) (Qs2 (m.r Aa) (m.r Ad)) Bh) λCa e a k m=>pN 1 k z λa k=>nn (wr (pN 2 k z λa k=>nn ?_))));refine cI h k z (λBr h=>?_) λBr h=>?_
   · refine wr (pN 2 k z λa k=>nn (wp_ret (Qad ?_)));refine fS h k m z z
   refine wp_skip (Qaa ?_);refine wr (sv k z (rL Qfg m 3 Al 0 k z) λa k=>sv k z (rL Q0f m 4 Ai 0 k z) λa k=>oE h λCy Aw h=>cC k m call41 z (Qy8 fu _ _ (Qah (m.r Ab) (m.r Ae) (m.r Ac)) (Qs2 (m.r Aa) (m.r Ad)) Aw) λCi e a k m=>pN 1 k z λa k=>nn (wp_ret (fS h k m z z)))
 refine wr (sv k z (rL Q0f m 0 Ai 0 k z) λa k=>oE h λBk Bv h=>cC k m call12 z (Quy fu _ (Qs2 (m.r Aa) (m.r Ad)) Bv) λDe e a k m=>pN 2 k z λa k=>Qam (!Bk) (λAf=>?_) (λAf=>?_))
 · have h:=Qax Af h;refine rB k 13 z Af λk=>pN 4 k z λa k=>nn (wp_cond_true (k.ev z) (wr (pN 1 k z λa k=>nn (wp_ret (Qad ?_)))));refine fS h k m z z
 have h:=Qav Af h;refine rB k 13 z Af λk=>fl Qm3 Qzo m 0 Ai k z z λa k=>oE h λCw Az h=>cC k m call33 z (Qki fu _ _ (m.r Aa) ⟨34,[],z,call34,λw Cd Cm r e Ap hx=>by obtain ⟨_,_,rfl,Ap⟩:=Ap; have m:=m.step e; exact Q1o fu _ Ap hx⟩ Az) λBz e a k m=>pN 1 k z λa k=>nn (cI h k z (λBs h=>?_) λBs h=>?_)
 · refine wr (pN 1 k z λa k=>nn (wp_ret (Qad ?_)));refine fS h k m z z
 refine wp_skip (Qaa ?_);exact ⟨k.keep [2,3] z,m.sl [1,0] z,h⟩
theorem Q0h (fu:Nat) {w0:World} (r1:Request) (x5:Plan) {Ab:List Value} {F3:List Nat} (Ap:rd w0 F3 Ab r1) {Ac:List Value} {F7:List Nat} (Am:rd w0 F7 Ac x5) {r:Bool}
    (h:Qom fu r1 x5=some r) :
    Calls Tryz.prog 11 #[.agg Ab.toArray,.agg Ac.toArray] w0 λe w=>e=.returned (.bool (r))∧Ext [] w0 w:=by
 refine en (vs:=[_,_]) func11 z ntmps11 z λa k m=>?_;obtain ⟨v9,Ba,Ae,Av,Af,Ar,rfl,rfl,Ad,Aj,Ah⟩:=Ap;obtain ⟨Ai,Bb,Ak,Ax,rfl,rfl,Ag,Aa⟩:=Am;unfold Qom at h;refine wr (Qbg (cs:=(cR r1 v9 Ae Af)) m k z z z z z z λAu Ay a k m e Aq=>Qbg (cs:=[Ai,Ak]) m k z z z z z z λAt Az a k m e Al=>pN 1 k z λa k=>nn (wr (sv k z (rL Qfg m 1 Aq 0 k z) λa k=>sv k z (rL Q0f m 0 Al 0 k z) λa k=>oE h λAw Ao h=>?_)));refine cC k m call10 z (Qyr fu _ _ (Qah (m.r Ad) (m.r Aj) (m.r Ah)) (Qs2 (m.r Ag) (m.r Aa)) Ao) λAs e a k m=>pN 2 k z λa k=>nn (wp_ret (fS h k m z z))
theorem Q4b (fu:Nat) {w0:World} (u1:Int) (x2:List Int) {v5:Value} {F6:List Nat} {b3:Nat} (Ab:bx w0 b3 [v5] 41) (Aa:rd w0 F6 [v5] x2) {r:Bool}
    (h:Qrz fu u1 x2=some r) :
    Calls Tryz.prog 46 #[I u1,pt b3] w0 λe w=>e=.returned (.bool (r))∧Ext [] w0 w:=by
 refine en (vs:=[_,_]) func46 z ntmps46 z λa k m=>?_;unfold Qrz at h;refine wr (pN 1 k z λa k=>nn (wr (sv k z (Qan Qr0 (r:=[]) (Ab.at (m.a00 Ab.lt1) 0 1 z z z) k z z) λa k=>pN 1 k z λa k=>oE h λx8 Ac h=>cC k m call47 z (Qjl fu _ _ (m.r Aa) Ac) λAd e a k m=>pN 1 k z λa k=>nn (wp_ret (fS h k m z z)))))
theorem Q6b (fu:Nat) {w0:World} (r1:Request) (x5:Plan) {Af:List Value} {F3:List Nat} (Bc:rd w0 F3 Af r1) {Ag:List Value} {F7:List Nat} (Aw:rd w0 F7 Ag x5) {r:(List Int)}
    (h:Qto fu r1 x5=some r) :
    Calls Tryz.prog 13 #[.agg Af.toArray,.agg Ag.toArray] w0 λe w=>∃ (v0:Value) (G0:List Nat),e=.returned (v0)∧Ext [] w0 w∧ow w G0 [v0] r∧(∀ b∈G0,w0.heap.size≤b):=by
 refine en (vs:=[_,_]) func13 z ntmps13 z λa k m=>?_;obtain ⟨v9,Ch,Ai,Bs,Aj,Bm,rfl,rfl,Ah,Ap,Am⟩:=Bc;obtain ⟨Ao,Ck,Aq,By,rfl,rfl,Al,Ae⟩:=Aw;unfold Qto at h;refine wr (Qbg (cs:=(cR r1 v9 Ai Aj)) m k z z z z z z λBr Bz a k m e Bk=>Qbg (cs:=[Ao,Aq]) m k z z z z z z λBq Ce a k m e Ar=>pN 1 k z λa k=>nn (wr (sv k z (rL Q0f m 0 Ar 0 k z) λa k=>oE h λBw Az h=>sC k call35 z (Qvv fu _ (Qs2 (m.r Al) (m.r Ae)) Az) λBl Bn hR=>?_)));obtain ⟨Bg,Bi,rfl,e,Aa,Ax⟩:=hR;refine ⟨_,z,λa k=>?_⟩;have m:=m.nw e Ax Aa;refine Qar (cs:=[.slice none 0 0]) m k zeroValue41 z z z z z λBj Cb a k m e Bd=>Qmx (cs':=[Bg]) sizeOf41 m 0 Bd 0 k (Qq9 (Enc.ow_rd Aa)) (Qhv (Enc.ow_rd Aa)) z z z z z z z z z λBx a k e m Bf=>nn (wr (sv k z (rL Qfg m 3 Bk 0 k z) λa k=>oE h λBp Bh h=>sC k call39 z (Qs3 fu _ (Qah (m.r Ah) (m.r Ap) (m.r Am)) Bh) λCm Bt hR=>?_));obtain ⟨Cl,Be,rfl,e,Ac,Ba⟩:=hR;refine ⟨_,z,λa k=>?_⟩;have m:=m.nw e Ba Ac
 refine sv k z (Qa2 (α:=Int) (Enc.ow_rd Ac) k underlying41 z z) λa k=>oE h λCj Bb h=>sC k call38 z (Qur fu _  Bb) λCa Bv hR=>?_;obtain ⟨Ci,Ak,rfl,e,Ab,Au⟩:=hR;refine ⟨_,z,λa k=>?_⟩;have m:=m.nw e Au Ab;refine pN 1 k z λa k=>oE h λBu Av h=>sC k call45 z (Qop fu _ _ (m.v Ab 0 z) ⟨46,[pt Bj],z,call46,λw Cc Bo r e Ay hx=>by subst Ay; have m:=m.mut 0 rfl e Ak (λb hb=>⟨.inl hb,e.lt1 (m.ltF 0 rfl) b hb⟩) (m.ndF 0 rfl); exact Q4b fu _ _ (Bf.agr (m.a 2 rfl) (by simp)) (Enc.rd_agr (Enc.ow_rd Aa) (m.a 3 rfl)) hx⟩ Av) λCg Cd hR=>?_
 obtain ⟨Cf,At,rfl,e,Ad,As⟩:=hR;refine ⟨_,z,λa k=>?_⟩;have m:=m.mut 0 z e _ (λb hb=>⟨As b hb,Enc.rd_lt (Enc.ow_rd Ad) b hb⟩) (Enc.ow_nd Ad);refine pN 1 k z λa k=>nn (wp_ret ?_);cases h;exact Qct k z (RV.tmp k z) ⟨_,At,z,m.ext,(m.v Ad 0 z),(m.fresh 0 z)⟩
theorem Q2g (fu:Nat) {w0:World} (hT:Tb Tryz.prog w0) (x1:Int) {r:ByteArray}
    (h:Qt9 fu x1=some r) :
    Calls Tryz.prog 192 #[I x1] w0 λe w=>e=.returned (.string r)∧Ext [] w0 w :=
  Jid (λn h0 h1 w ht=>Tryz.strconv_Itoa n h0 h1 w ht) hT x1 h
theorem Q30 (fu:Nat) {w0:World} (hT:Tb Tryz.prog w0) (n1:Int)  {r:ByteArray}
    (h:Qr3 fu n1=some r) :
    Calls Tryz.prog 109 #[I n1] w0 λe w=>e=.returned (.string (r))∧Ext [] w0 w:=by
 refine en (vs:=[_]) func109 z ntmps109 z λa k m=>?_;unfold Qr3 at h;refine wr (pN 1 k z λa k=>nn (wr (pN 1 k z λa k=>oE h λx2 Aa h=>cC k m call192 z (Q2g fu (m.tb hT) _  Aa) λw5 e a k m=>pN 1 k z λa k=>nn (wp_ret (fS h k m z z)))))
theorem Q07 (fu:Nat) {w0:World} (hT:Tb Tryz.prog w0) (Ad:ByteArray) (Ab:List Int) {v3:Value} {F4:List Nat} (Ac:rd w0 F4 [v3] Ab) {r:ByteArray×Bool}
    (h:Qkk fu Ad Ab=some r) :
    Calls Tryz.prog 48 #[.string (Ad),v3] w0 λe w=>e=.returned (.tuple #[.string (r.1),.bool (r.2)])∧Ext [] w0 w:=by
 refine en (vs:=[_,_]) func48 z ntmps48 z λa k m=>?_;unfold Qkk at h;refine wr (pN 2 k z λa k=>nn (wr (pN 2 k z λa k=>nn (wp_seq (wr (pN 1 k z λa k=>sv k z (Qa2 (α:=Int) Ac k underlying41 z z) λa k=>pN 1 k z λa k=>nn (wp_block (Qap (λn a w=>∃ (Ae:ByteArray) (Aa:Int),K 27 [(6,.string (Ae)),(10,v3),(11,I (Ab.length:Int)),(12,I Aa)] a∧St [] w0 w []∧Qe3 fu Ab n Ae Aa=some r) ?_ ?_ fu _ _ ?_))))))))
 · rintro a w ⟨_,_,_,_,h⟩;exact nS h
 · rintro Ap a Au ⟨Ae,Aa,k,m,h⟩;rw [Qe3.eq_2] at h;unfold Qj3 at h;refine wr (pN 1 k z λa k=>nn (wp_seq (cI h k z (λAg h=>?_) λAg h=>?_)))
   · refine wp_skip (Qaa ?_);refine wp_seq (wp_block (wr (oE h λAv Af h=>sv k z (Qak Ac Af k Qhf z z z) λa k=>sv k z (Qaq Ac (m.a00 (Enc.rd_lt Ac)) Af 0 t13 k z z z z) λa k=>pN 1 k z λa k=>nn (wp_seq (wr (pN 1 k z λa k=>oE h λAq Am h=>cC k m call42 z (Qbn fu _ _ _  Am) λAx e a k m=>pN 1 k z λa k=>nn (cI h k z (λAl h=>?_) λAl h=>?_)))))))
     · refine wr (pN 2 k z λa k=>nn (wp_ret (Qad (Qag (Qad (Qad (Qag (Qad ?_))))))));cases h;exact Quu k z (RV.tmp k z) (RV.tmp k z) ⟨z,m.ext⟩
     refine wp_skip (Qaa ?_);refine wp_region_lit (pN 2 k z λa k=>oE h λAr Ao h=>cC k m call109 z (Q30 fu (m.tb hT) _  Ao) λAw e a k m=>oE h λAt Ak h=>sv k z (Q1i Ak k z z z) λa k=>oE h λAh Aj h=>sv k z (Q1i Aj k z z z) λa k=>pN 1 k z λa k=>wpList_nil (Qae (Qaa ?_)));refine wp_region_lit (pN 2 k z λa k=>nn ?_);exact ⟨Ah,w64 (Aa+1),k.keep [6,10,11,12] z,m.sl [] z,h⟩
   refine wp_exit (Qaf (Qaf (Qaj (Qaa ?_))));refine wr (pN 1 k z λa k=>oE h λAs Ai h=>sv k z (Q1i Ai k z z z) λa k=>pN 2 k z λa k=>nn (wp_ret ?_));cases h;exact Quu k z (RV.tmp k z) (RV.tmp k z) ⟨z,m.ext⟩
 exact ⟨Ad,0,k.keep [6,10,11,12] z,m.sl [] z,h⟩
theorem Q0r (fu:Nat) {w0:World} (hT:Tb Tryz.prog w0) (x1:Plan) {Ak:List Value} {F3:List Nat} (Bc:rd w0 F3 Ak x1) {r:ByteArray}
    (h:Qog fu x1=some r) :
    Calls Tryz.prog 14 #[.agg Ak.toArray] w0 λe w=>e=.returned (.string (r))∧Ext [] w0 w:=by
 refine en (vs:=[_]) func14 z ntmps14 z λa k m=>?_;obtain ⟨v5,F6,v7,F8,rfl,rfl,Ab,Ad⟩:=Bc;unfold Qog at h;refine wr (Qbg (cs:=[v5,v7]) m k z z z z z z λAm Ar a k m e Ai=>pN 1 k z λa k=>nn (wp_seq (wr (sv k z (rL Q0f m 0 Ai 0 k z) λa k=>oE h λBo Bg h=>cC k m call12 z (Quy fu _ (Qs2 (m.r Ab) (m.r Ad)) Bg) λBl e a k m=>pN 1 k z λa k=>nn (cI h k z (λAp h=>?_) λAp h=>?_)))))
 · refine wr (pN 1 k z λa k=>nn (wp_ret (Qad ?_)));refine fS h k m z z
 refine wp_skip (Qaa ?_);refine wr (pN 1 k z λa k=>nn (wp_seq (wr (fl Qm3 Qzo m 0 Ai k z z λa k=>sv k z (Qa2 (α:=Carton) Ab k underlying32 z z) λa k=>pN 1 k z λa k=>nn (wp_block (Qap (λn a w=>∃ (Ah:ByteArray) (Af:Int),K 50 [(1,pt Am),(3,.string (Ah)),(13,v5),(14,I (x1.fV.length:Int)),(15,I Af)] a∧St [] w0 w [([Am],Ar)]∧Qed fu x1 n Ah Af=some r) ?_ ?_ fu _ _ ?_))))))
 · rintro a w ⟨_,_,_,_,h⟩;exact nS h
 · rintro Bz a Bw ⟨Ah,Af,k,m,h⟩;rw [Qed.eq_2] at h;unfold Qjz at h;refine wr (pN 1 k z λa k=>nn (wp_seq (cI h k z (λAt h=>?_) λAt h=>?_)))
   · refine wp_skip (Qaa ?_);refine wp_seq (wp_block (wr (pN 1 k z λa k=>oE h λAc Ao h=>sv k z (Qak Ab Ao k Q5y z z z) λa k=>?_)));obtain ⟨By,Bk,Bu,Bd,Aw,Ay⟩:=Qa6 Ab (Qal Ao).2.2;obtain ⟨Az,_,rfl,rfl,Aj⟩:=Bd;refine sv k z (Qde Q4y (Aw.agr (m.a00 (Enc.rd_lt Ab)) Ay) z k z z) λa k=>Qar (cs:=[I 0,I 0,.slice none 0 0]) m k zeroValue56 z z z z z λBm Bi a k m e Be=>pN 1 k z λa k=>sT (cs':=[I Ac.qJ,I Ac.fM,Az]) sizeOf56 m 0 Be 0 k z (Qb1 z (Qb1 z (Qb1 (Qhv Aj) Qs5))) λBt a k e m Ag=>nn (wr (fl Qta Q77 m 1 Ai k z z λa k=>pN 1 k z λa k=>oE h λAa Al h=>sv k z (Qak Ad Al k Q6c z z z) λa k=>sv k z (Qir Ad (m.a00 (Enc.rd_lt Ad)) Al Q57 k z z) λa k=>?_));refine Qar (cs:=[I 0,I 0,I 0,I 0]) m k zeroValue62 z z z z z λCc Bq a k m e Bb=>sT (cs':=[I Aa.fJ,I Aa.fX,I Aa.fY,I Aa.fZ]) sizeOf62 m 0 Bb 0 k z z λCb a k e m Ae=>nn (wr (fl Qwc t13 m 1 Ag k z z λa k=>fl Qwj t13 m 1 Ag k z z λa k=>fl Qts t13 m 0 Ae k z z λa k=>fl Qxo t13 m 0 Ae k z z λa k=>?_))
     refine fl Qxi t13 m 0 Ae k z z λa k=>fl Qw5 t13 m 0 Ae k z z λa k=>sB (cs:=[I Ac.qJ,I Ac.fM,I Aa.fJ,I Aa.fX,I Aa.fY,I Aa.fZ]) (ps:=[(0,.tmp 27),(1,.tmp 29),(2,.tmp 31),(3,.tmp 33),(4,.tmp 35),(5,.tmp 37)]) Qb4 m k z (by exact fC z (fC z (fC z (fC z (fC z (fC z fN)))))) λBv Bj Bx a k m e Bf=>?_;have Aq:=Qa5 Bf ([Ac.qJ,Ac.fM,Aa.fJ,Aa.fX,Aa.fY,Aa.fZ]:List Int) z z z;refine fl Qtn Qr0 m 2 Ag k z z λa k=>oE h λBn Ax h=>Qfr Ax Qb4 z m 0 Aq (News.rd (m.r Aj)) z z k z z z z z z z λBr Ca Bh a k e m Ba=>oE h λBp Au h=>cC k m call48 z (Q07 fu (m.tb hT) _ _ (m.q Ba 0 z) Au) λBs e a k m=>pN 5 k z λa k=>?_;have k:=k.keep [1,13,14,3,15,7] z;refine nn (wp_region_lit (pN 2 k z λa k=>oE h λAs Av h=>sv k z (Q1i Av k z z z) λa k=>pN 1 k z λa k=>wpList_nil (Qae (Qaa ?_))));refine wp_region_lit (pN 2 k z λa k=>nn ?_);exact ⟨As,w64 (Af+1),k.keep [1,3,13,14,15] z,m.sl [3] z,h⟩
   refine wp_exit (Qaf (Qaf (Qaj (Qaa ?_))));refine wr (pN 2 k z λa k=>nn (wp_ret (fS h k m z z)))
 exact ⟨(⟨#[]⟩:ByteArray),0,k.keep [1,3,13,14,15] z,m.sl [0] z,h⟩
end Go.Proofs.YtpcmapfabndggaaGreatDoor
