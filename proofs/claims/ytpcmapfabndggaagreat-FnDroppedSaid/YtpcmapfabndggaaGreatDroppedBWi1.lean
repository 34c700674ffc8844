/- FnDropped: the walks.. -/
import Derived.Test.YtpcmapfabndggaaGreatDroppedBT
set_option maxRecDepth 20000
set_option linter.unusedSimpArgs false
set_option linter.unusedVariables false
set_option linter.unnecessarySimpa false
namespace Go.Proofs.YtpcmapfabndggaaGreat
open Go Go.RowKit
open Enc (rd ow)
open Arg (argv)
open Ret (retv)
open Go.Proofs.Tryz
theorem Qm7 (fu:Nat) {w0:World} (Ab:List Int) {v2:Value} {F3:List Nat} (Aa:rd w0 F3 [v2] Ab) {r:(List Int)}
    (h:Qct fu Ab = some r) :
    Calls Tryz.prog 162 #[v2] w0 λe w=>∃ (v0:Value) (G0:List Nat),e = .returned (v0) ∧ Ext [] w0 w ∧ ow w G0 [v0] r ∧ (∀ b ∈ G0,w0.heap.size ≤ b):=by
 refine en (vs:=[_]) func162 z ntmps162 z λa k m=>?_;unfold Qct at h;refine wr (pN 1 k z λa k=>nn (wp_seq (wr (pN 1 k z λa k=>?_))));obtain ⟨Ak,Aj,Al⟩:=Jcw Aa;refine sv k z (Al k underlying49 z z z) λa k=>nn (Jas (b:=Ak) k z (λAc=>?_) (λAc=>?_))
 · have Ag:=Aj Ac;rw [Ag] at h;have h:some (([]:List Int)) = some r:=h;refine wr (pN 1 k z λa k=>nn (wp_ret (Qad ?_)));cases h;exact Qch k z (RV.tmp k z) ⟨_,[],z,m.ext,(Qii _),(by simp)⟩
 refine wp_skip (Qaa ?_);refine wr (sB (cs:=[]) (ps:=[]) Qb7 m k z (by exact fN) λAp Ar Aq a k m e Af=>?_);have Ah:=Qa2 Af ([]:List Int) z z z;refine pN 1 k z λa k=>oE h λAo Ad h=>Qfi Ad Qb7 z m 0 Ah (News.rd (m.r Aa)) z z k z z z z z z z λAm Ai As a k e m Ae=>pN 1 k z λa k=>nn (wp_ret ?_);cases h;exact Qch k z (RV.tmp k z) ⟨_,Ai,z,m.ext,(m.v Ae 0 z),(m.fresh 0 z)⟩
theorem Qvr (fu:Nat) {w0:World} (Ad:List Carton) {v2:Value} {F3:List Nat} (Af:rd w0 F3 [v2] Ad) {r:(List Carton)}
    (h:Qh1 fu Ad = some r) :
    Calls Tryz.prog 77 #[v2] w0 λe w=>∃ (v0:Value) (G0:List Nat),e = .returned (v0) ∧ Ext [] w0 w ∧ ow w G0 [v0] r ∧ (∀ b ∈ G0,w0.heap.size ≤ b):=by
 refine en (vs:=[_]) func77 z ntmps77 z λa k m=>?_;unfold Qh1 at h;refine wr (pN 1 k z λa k=>nn (wr (sB (cs:=[]) (ps:=[]) Qz5 m k z (by exact fN) λg5 w6 e8 a k m e Av=>?_)));have Bc:=Quq (α:=Carton) Av;refine pN 1 k z λa k=>nn (wp_seq (wr (pN 1 k z λa k=>sv k z (Qav (α:=Carton) Af k underlying31 z z) λa k=>pN 1 k z λa k=>nn (wp_block (Qap (λn a w=>∃ (Al:List Carton) (Ah:Value) (Ab:List Nat) (Aj:World) (Ae:Int),K 23 [(3,Ah),(7,v2),(8,I (Ad.length:Int)),(9,I Ae)] a ∧ St [] w0 w [(Ab,Aj)] ∧ ow Aj Ab [Ah] Al ∧ Qdk fu Ad n Al Ae = some r) ?_ ?_ fu _ _ ?_)))))
 · rintro a w ⟨_,_,_,_,_,_,_,_,h⟩;exact nS h
 · rintro Bq a Bm ⟨Al,Ah,Ab,Aj,Ae,k,m,Ao,h⟩;rw [Qdk.eq_2] at h;unfold Qg8 at h;refine wr (pN 1 k z λa k=>nn (wp_seq (cI h k z (λAy h=>?_) λAy h=>?_)))
   · refine wp_skip (Qaa ?_);refine wp_seq (wp_block (wr (oE h λAa Ap h=>sv k z (Qaj Af Ap k Qtm z z z) λa k=>?_)));obtain ⟨Br,Bo,Bu,Bj,Bb,Ax⟩:=Qbo Af (Qas Ap).2.2;obtain ⟨Au,_,rfl,rfl,Ag⟩:=Bj;refine sv k z (Qbw Qxa (Bb.agr (m.a00 (Enc.rd_lt Af)) Ax) z k z z) λa k=>Qan (cs:=[I 0,I 0,.slice none 0 0]) m k zeroValue53 z z z z z λBw Bn a k m e Az=>sT (cs':=[I Aa.fO,I Aa.fE,Au]) sizeOf53 m 0 Az 0 k z (Qa9 z (Qa9 z (Qa9 (Qc7 Ag) Qqo))) λBv a k e m Am=>nn (wr (fl Qiq Qsf m 0 Am k z z λa k=>oE h λBa Be h=>sC k call162 z (Qm7 fu _ (m.r Ag) Be) λBx Bz hR=>?_));obtain ⟨Ak,Ai,rfl,e,Ac,Bk⟩:=hR;refine ⟨_,z,λa k=>?_⟩;have m:=m.nw e Bk Ac
     refine sv k z (Qh5 Qiq k z z) λa k=>Qf2 (cs':=[I Aa.fO,I Aa.fE,Ak]) sizeOf49 m 1 Am 2 k (Qoy (Enc.ow_rd Ac)) (Qc7 (Enc.ow_rd Ac)) z z z z z z z z z λBy a k e m As=>nn (wp_region_lit (pN 1 k z λa k=>sv k z (rL Qxa m 1 As 0 k z) λa k=>sB (cs:=[I Aa.fO,I Aa.fE,Ak]) (ps:=[(0,.tmp 18)]) Qz5 m k z (by exact fC z fN) λBp Bs Bt a k m e Bi=>oE h λAq Aw h=>?_));have Bl:ow _ (Ai) [I Aa.fO,I Aa.fE,Ak] ((⟨Aa.fO,Aa.fE,Ba⟩:Carton):Carton):=⟨_,_,z,z,(m.v Ac 1 z),by simpa [fps] using (m.sl [1] z).nd⟩
     have Bh:=News.box Bi (m.a 0 z) (by simp) (m:=1);have At:=m.a 3 z;have m:=m.sl [3,1,0,2] z;have m:=m.join2;refine Qnv (F:=Ab) (G:=(Ai)) Aw Qz5 z m Ao At Bh Bl (Agr.refl _ _) k z z z z z z λAr Bf Bg a k e m Bd=>pN 1 k z λa k=>wpList_nil (Qae (Qaa ?_));refine wp_region_lit (pN 2 k z λa k=>nn ?_);exact ⟨Aq,Ar,Bf,Bg,w64 (Ae + 1),k.keep [3,7,8,9] z,m.sl [0] z,Bd,h⟩
   refine wp_exit (Qag (Qag (Qak (Qaa ?_))));refine wr (pN 2 k z λa k=>nn (wp_ret ?_));cases h;exact Qch k z (RV.tmp k z) ⟨_,Ab,z,m.ext,(m.v Ao 0 z),(m.fresh 0 z)⟩
 exact ⟨([]:List Carton),(.slice (some ⟨g5,0,none⟩) 0 0),[g5],w6,0,k.keep [3,7,8,9] z,m.sl [0] z,Bc,h⟩
theorem Qrb (fu:Nat) {w0:World} (Ab:List Spot) {v2:Value} {F3:List Nat} (Aa:rd w0 F3 [v2] Ab) {r:(List Spot)}
    (h:Qc8 fu Ab = some r) :
    Calls Tryz.prog 78 #[v2] w0 λe w=>∃ (v0:Value) (G0:List Nat),e = .returned (v0) ∧ Ext [] w0 w ∧ ow w G0 [v0] r ∧ (∀ b ∈ G0,w0.heap.size ≤ b):=by
 refine en (vs:=[_]) func78 z ntmps78 z λa k m=>?_;unfold Qc8 at h;refine wr (pN 1 k z λa k=>nn (wp_seq (wr (pN 1 k z λa k=>?_))));obtain ⟨Ak,Aj,Al⟩:=Jcw Aa;refine sv k z (Al k underlying32 z z z) λa k=>nn (Jas (b:=Ak) k z (λAc=>?_) (λAc=>?_))
 · have Ag:=Aj Ac;rw [Ag] at h;have h:some (([]:List Spot)) = some r:=h;refine wr (pN 1 k z λa k=>nn (wp_ret (Qad ?_)));cases h;exact Qch k z (RV.tmp k z) ⟨_,[],z,m.ext,(Qii _),(by simp)⟩
 refine wp_skip (Qaa ?_);refine wr (sB (cs:=[]) (ps:=[]) Q27 m k z (by exact fN) λAp Ar Aq a k m e Af=>?_);have Ah:=Qa2 Af ([]:List Spot) z z z;refine pN 1 k z λa k=>oE h λAo Ad h=>Qfi Ad Q27 z m 0 Ah (News.rd (m.r Aa)) z z k z z z z z z z λAm Ai As a k e m Ae=>pN 1 k z λa k=>nn (wp_ret ?_);cases h;exact Qch k z (RV.tmp k z) ⟨_,Ai,z,m.ext,(m.v Ae 0 z),(m.fresh 0 z)⟩
theorem Qx1 (fu:Nat) {w0:World} (x1:Plan) {Al:List Value} {F3:List Nat} (As:rd w0 F3 Al x1) {r:Plan}
    (h:Qms fu x1 = some r) :
    Calls Tryz.prog 25 #[.agg Al.toArray] w0 λe w=>∃ (Ak:List Value) (G0:List Nat),e = .returned (.agg Ak.toArray) ∧ Ext [] w0 w ∧ ow w G0 Ak r ∧ (∀ b ∈ G0,w0.heap.size ≤ b):=by
 refine en (vs:=[_]) func25 z ntmps25 z λa k m=>?_;obtain ⟨v5,F6,v7,F8,rfl,rfl,Ai,Ag⟩:=As;unfold Qms at h;refine wr (Qa1 (cs:=[v5,v7]) m k z z z z z z λAz Bb a k m e Am=>Qan (cs:=[.slice none 0 0,.slice none 0 0]) m k zeroValue34 z z z z z λAj Aw a k m e Ar=>nn (wp_seq (Qhe ([Aj]) Qg5 m z λAp hMd=>?_)));have m:=hMd;have s:=Ext.refl (([Aj]):List Nat) Ap;refine dF k 0 Qbl z s λa k=>dT k 1 z z s (λw s=>Qam Qmt (r:=[]) (Am.at (hMd.az 1 0 z z z s) 0 1 z z z) k z z) λa k=>dF k 3 Qcf z s λa k=>dT k 4 z z s (λw s=>Qam Qsg (r:=[]) (Am.at (hMd.az 1 0 z z z s) 1 1 z z z) k z z) λa k=>dO 2 z (oE h λBf Aq h=>sC k call77 z (Qvr fu _ (m.r Ai) Aq) λBd Bc hR=>?_);obtain ⟨Af,Ad,rfl,e,Aa,Ao⟩:=hR;refine ⟨_,z,λa k=>?_⟩;have m:=m.nw e Ao Aa;have Av:=λ(y:Nat) (hy:y ∈ Ad)=>Nat.le_trans s.size (Ao y hy);refine ns s e λs=>?_;refine dO 5 z (oE h λAy At h=>sC k call78 z (Qrb fu _ (m.r Ag) At) λAx Ba hR=>?_);obtain ⟨Ah,Ac,rfl,e,Ab,Ae⟩:=hR;refine ⟨_,z,λa k=>?_⟩;have m:=m.nw e Ae Ab
 have Bg:=λ(y:Nat) (hy:y ∈ Ac)=>Nat.le_trans s.size (Ae y hy);refine ns s e λs=>?_;refine dT k 6 z z s (λw s=>Qba Jhk k (cs:=#[Af,Ah]) (ps:=[(0,.tmp 5),(1,.tmp 8)]) z z (Qhh z (Qoy (Enc.ow_rd Aa)) z (Qhh z (Qoy (Enc.ow_rd Ab)) z z))) λa k=>dO 7 z (sT (cs':=[Af,Ah]) sizeOf34 m 2 Ar 0 k z (Qa9 (Qc7 (Enc.ow_rd Aa)) (Qa9 (Qc7 (Enc.ow_rd Ab)) Qqo)) λBe a k e m Au=>?_);have s:=s.trans e (λy hy=>Or.inl hy);refine wpList_nil ⟨s,?_⟩;refine dD ((Qaa ?_));refine wp_ret ?_;cases h;exact Qch k z (RV.cA k z Qq9 (Au.at (m.a 2 z) 0 2 z z z) z) ⟨_,_,z,m.ext,⟨_,Ad,_,Ac,z,z,(m.v Aa 1 z),(m.v Ab 0 z),by simpa [fps] using (m.sl [1,0] z).nd⟩,(Qb6 (m.fresh 1 z) (m.fresh 0 z))⟩
theorem Qw9 (fu:Nat) {w0:World} (t1:Typ) (x2:Int) {b3:Nat} (Aa:bx w0 b3 [I x2] 3) {r:Bool}
    (h:Qpg fu t1 x2 = some r) :
    Calls Tryz.prog 163 #[.agg (Flat.e (t1)).toArray,pt b3] w0 λe w=>e = .returned (.bool (r)) ∧ Ext [] w0 w:=by
 refine en (vs:=[_,_]) func163 z ntmps163 z λa k m=>?_;unfold Qpg at h;refine wr (Qa1 (cs:=[I t1.f8,I t1.fW,I t1.fH,I t1.fD,I t1.f7,I t1.fV,I t1.fK]) m k z z z z z z λb5 w7 a k m e Ab=>pN 1 k z λa k=>nn (wr (fl Qs6 t13 m 0 Ab k z z λa k=>sv k z (Qam t13 (r:=[]) (Aa.at (m.a00 Aa.lt1) 0 1 z z z) k z z) λa k=>pN 2 k z λa k=>nn (wp_ret (fS h k m z z)))))
theorem Qg9 (fu:Nat) {w0:World} (Ac:List Typ) (f5:Typ → Option Bool) {v2:Value} {F3:List Nat} (Aa:rd w0 F3 [v2] Ac) {v6:Value} (Aj:Qy7 Tryz.prog w0 v6 f5) {r:Int}
    (h:Qbg fu Ac f5 = some r) :
    Calls Tryz.prog 108 #[v2,v6] w0 λe w=>e = .returned (I r) ∧ Ext [] w0 w:=by
 refine en (vs:=[_,_]) func108 z ntmps108 z λa k m=>?_;obtain ⟨Al,Ak,rfl,Ae,Ai⟩:=Aj;unfold Qbg at h;refine wr (pN 1 k z λa k=>nn (wp_seq (wr (pN 1 k z λa k=>sv k z (Qav (α:=Typ) Aa k underlying27 z z) λa k=>pN 1 k z λa k=>nn (wp_block (Qap (λn a w=>∃ (Ab:Int),K 19 [(0,v2),(1,(.func (.func Al) #[] Ak.toArray)),(7,I (Ac.length:Int)),(8,I Ab)] a ∧ St [] w0 w [] ∧ Qa5 fu Ac f5 n Ab = some r) ?_ ?_ fu _ _ ?_))))))
 · rintro a w ⟨_,_,_,h⟩;exact nS h
 · rintro As a Ap ⟨Ab,k,m,h⟩;rw [Qa5.eq_2] at h;unfold Qb2 at h;refine wr (pN 1 k z λa k=>nn (wp_seq (cI h k z (λAf h=>?_) λAf h=>?_)))
   · refine wp_skip (Qaa ?_);refine wp_seq (wp_block (wr (pN 2 k z λa k=>nn (wr (pN 3 k z λa k=>oE h λAo Ad h=>sv k z (Qaj Aa Ad k Q3b z z z) λa k=>sv k z (Qg6 Aa (m.a00 (Enc.rd_lt Aa)) Ad Qtx k z z) λa k=>oE h λAm Ah h=>Qvs k Ae z z z z z z (Ai _ _ _ _ m.ext z Ah) λAq Ar hR=>?_)))));obtain ⟨rfl,e⟩:=hR;refine ⟨_,z,λa k=>?_⟩;have m:=m.step e;refine nn (cI h k z (λAg h=>?_) λAg h=>?_)
     · refine wr (pN 2 k z λa k=>nn (wp_ret (Qaf (Qad (Qad (Qaf (Qad ?_)))))));refine fS h k m z z
     refine wp_skip (Qae (Qaa ?_));refine wp_region_lit (pN 2 k z λa k=>nn ?_);exact ⟨w64 (Ab + 1),k.keep [0,1,7,8] z,m.sl [] z,h⟩
   refine wp_exit (Qag (Qag (Qak (Qaa ?_))));refine wr (pN 1 k z λa k=>nn (wp_ret (fS h k m z z)))
 exact ⟨0,k.keep [0,1,7,8] z,m.sl [] z,h⟩
theorem Qr9 (fu:Nat) {w0:World} (r1:Request) (Ac:Int) {Ag:List Value} {F3:List Nat} (Al:rd w0 F3 Ag r1) {r:Typ × Bool}
    (h:Qgy fu r1 Ac = some r) :
    Calls Tryz.prog 79 #[.agg Ag.toArray,I Ac] w0 λe w=>e = .returned (.tuple #[.agg (Flat.e r.1).toArray,.bool (r.2)]) ∧ Ext [] w0 w:=by
 refine en (vs:=[_,_]) func79 z ntmps79 z λa k m=>?_;obtain ⟨v6,F7,v8,F9,Aj,Bb,rfl,rfl,Ax,Ab,Be⟩:=Al;unfold Qgy at h;refine wr (Qa1 (cs:=(cR r1 v6 v8 Aj)) m k z z z z z z λAt Ar a k m e Af=>Qa1 (cs:=[I Ac]) m k z z z z z z λAq Av a k m e Ai=>Qan (cs:=[I 0,I 0,I 0,I 0,I 0,I 0,I 0]) m k zeroValue65 z z z z z λAs Ay a k m e Ae=>pN 1 k z λa k=>nn (wr (fl Qeg t127 m 2 Af k z z λa k=>pN 1 k z λa k=>oE h λAz Am h=>?_)));refine cC k m call108 z (Qg9 fu _ _ (m.r Ab) ⟨163,[pt Aq],z,call163,λw Au Bc r e Ap hx=>by subst Ap; have m:=m.step e; exact Qw9 fu _ _ (Ai.agr (m.a 1 rfl) (by simp)) hx⟩ Am) λBd e a k m=>pN 1 k rfl λa k=>nn (wp_seq (wr (pN 2 k rfl λa k=>nn (cI h k rfl (λAo h=>?_) λAo h=>?_))))
 · refine wr (sv k z (Qba Q5x k (cs:=#[I 0,I 0,I 0,I 0,I 0,I 0,I 0]) (ps:=[]) z z (by kernel_rfl)) λa k=>sT (cs':=[I 0,I 0,I 0,I 0,I 0,I 0,I 0]) sizeOf65 m 0 Ae 0 k z z λBa a k e m Ah=>pN 1 k z λa k=>nn (wp_ret (Qad ?_)));cases h;exact Qt6 k z (RV.cA k z Qtx (Ah.at (m.a 0 z) 0 7 z z z) z) (RV.tmp k z) ⟨z,m.ext⟩
 refine wp_skip (Qaa ?_);refine wr (fl Qeg t127 m 2 Af k z z λa k=>pN 1 k z λa k=>oE h λAa Ad h=>sv k z (Qaj Ab Ad k Q3b z z z) λa k=>sv k z (Qg6 Ab (m.a00 (Enc.rd_lt Ab)) Ad Qtx k z z) λa k=>sT (cs':=[I Aa.f8,I Aa.fW,I Aa.fH,I Aa.fD,I Aa.f7,I Aa.fV,I Aa.fK]) sizeOf65 m 0 Ae 0 k z z λAw a k e m Ak=>pN 1 k z λa k=>nn (wp_ret ?_));cases h;exact Qt6 k z (RV.cA k z Qtx (Ak.at (m.a 0 z) 0 7 z z z) z) (RV.tmp k z) ⟨z,m.ext⟩
theorem Quh (fu:Nat) {w0:World} (r1:Request) {Ae:List Value} {F3:List Nat} (Ah:rd w0 F3 Ae r1) {r:Typ × Bool}
    (h:Qka fu r1 = some r) :
    Calls Tryz.prog 34 #[.agg Ae.toArray] w0 λe w=>e = .returned (.tuple #[.agg (Flat.e r.1).toArray,.bool (r.2)]) ∧ Ext [] w0 w:=by
 refine en (vs:=[_]) func34 z ntmps34 z λa k m=>?_;obtain ⟨v5,F6,v7,F8,v9,Ak,rfl,rfl,Ab,Ac,Ad⟩:=Ah;unfold Qka at h;refine wr (Qa1 (cs:=(cR r1 v5 v7 v9)) m k z z z z z z λAp Ar a k m e Af=>Qan (cs:=[I 0,I 0,I 0,I 0,I 0,I 0,I 0]) m k zeroValue65 z z z z z λAq Ao a k m e Ai=>pN 1 k z λa k=>nn (wr (sv k z (rL Qeb m 1 Af 0 k z) λa k=>fl Q3l t13 m 1 Af k z z λa k=>oE h λAa Aj h=>?_)));refine cC k m call79 z (Qr9 fu _ _ (Qah (m.r Ab) (m.r Ac) (m.r Ad)) Aj) λAl e a k m=>pN 2 k z λa k=>sT (cs':=[I Aa.1.f8,I Aa.1.fW,I Aa.1.fH,I Aa.1.fD,I Aa.1.f7,I Aa.1.fV,I Aa.1.fK]) sizeOf65 m 0 Ai 0 k z z λAm a k e m Ag=>pN 1 k z λa k=>nn (wp_ret ?_);cases h;exact Qt6 k z (RV.cA k z Qtx (Ag.at (m.a 0 z) 0 7 z z z) z) (RV.tmp k z) ⟨z,m.ext⟩
theorem Qcs (fu:Nat) {w0:World} (n1:Int) (Ab:Int) (Ac:Int)  {r:Bool}
    (h:Qcd fu n1 Ab Ac = some r) :
    Calls Tryz.prog 56 #[I n1,I Ab,I Ac] w0 λe w=>e = .returned (.bool (r)) ∧ Ext [] w0 w:=by
 refine en (vs:=[_,_,_]) func56 z ntmps56 z λa k m=>?_;unfold Qcd at h;refine wr (pN 1 k z λa k=>nn (wr (pN 4 k z λa k=>Qal (decide (n1 ≥ Ab)) (λAa=>?_) (λAa=>?_))))
 · have h:=Qau Aa h;refine rB k 10 z Aa λk=>pN 5 k z λa k=>nn (wp_ret (fS h k m z z))
 have h:=Qat Aa h;refine rB k 10 z Aa λk=>pN 5 k z λa k=>nn (wp_ret (fS h k m z z))
theorem Qet (fu:Nat) {w0:World} (n1:Int)  {r:Bool}
    (h:Qcv fu n1 = some r) :
    Calls Tryz.prog 176 #[I n1] w0 λe w=>e = .returned (.bool (r)) ∧ Ext [] w0 w:=by
 refine en (vs:=[_]) func176 z ntmps176 z λa k m=>?_;unfold Qcv at h;refine wr (pN 1 k z λa k=>nn (wr (pN 1 k z λa k=>oE h λx2 Aa h=>cC k m call56 z (Qcs fu _ _ _  Aa) λw5 e a k m=>pN 1 k z λa k=>nn (wp_ret (fS h k m z z)))))
theorem Qzd (fu:Nat) {w0:World} (x1:Pallet)  {r:Bool}
    (h:Qoi fu x1 = some r) :
    Calls Tryz.prog 97 #[.agg (Flat.e (x1)).toArray] w0 λe w=>e = .returned (.bool (r)) ∧ Ext [] w0 w:=by
 refine en (vs:=[_]) func97 z ntmps97 z λa k m=>?_;unfold Qoi at h;refine wr (Qa1 (cs:=[I x1.fW,I x1.fD,I x1.fH,I x1.fV]) m k z z z z z z λb2 w4 a k m e Ad=>pN 1 k z λa k=>nn (wr (fl Qv6 t13 m 0 Ad k z z λa k=>oE h λx5 Ae h=>cC k m call176 z (Qet fu _  Ae) λw9 e a k m=>pN 1 k z λa k=>Qal (x5) (λAa=>?_) (λAa=>?_))))
 · have h:=Qau Aa h;refine rB k 6 z Aa λk=>fl Qv2 t13 m 0 Ad k z z λa k=>oE h λAf Ag h=>cC k m call176 z (Qet fu _  Ag) λAm e a k m=>pN 2 k z λa k=>Qal (Af) (λAc=>?_) (λAc=>?_)
   · have h:=Qau Ac h;refine rB k 11 z Ac λk=>fl Qv0 t13 m 0 Ad k z z λa k=>oE h λAi Aj h=>cC k m call176 z (Qet fu _  Aj) λAl e a k m=>pN 2 k z λa k=>Qal (Ai) (λAb=>?_) (λAb=>?_)
     · have h:=Qau Ab h;refine rB k 16 z Ab λk=>fl Qub t13 m 0 Ad k z z λa k=>oE h λAo Ah h=>cC k m call56 z (Qcs fu _ _ _  Ah) λAk e a k m=>pN 2 k z λa k=>nn (wp_ret (fS h k m z z))
     have h:=Qat Ab h;refine rB k 16 z Ab λk=>pN 5 k z λa k=>nn (wp_ret (fS h k m z z))
   have h:=Qat Ac h;refine rB k 11 z Ac λk=>pN 10 k z λa k=>nn (wp_ret (fS h k m z z))
 have h:=Qat Aa h;refine rB k 6 z Aa λk=>pN 15 k z λa k=>nn (wp_ret (fS h k m z z))
theorem Qo0 (fu:Nat) {w0:World} (Ac:List Pair) (f5:Pair → Option Bool) {v2:Value} {F3:List Nat} (Aa:rd w0 F3 [v2] Ac) {v6:Value} (Aj:Qy7 Tryz.prog w0 v6 f5) {r:Int}
    (h:Qbx fu Ac f5 = some r) :
    Calls Tryz.prog 177 #[v2,v6] w0 λe w=>e = .returned (I r) ∧ Ext [] w0 w:=by
 refine en (vs:=[_,_]) func177 z ntmps177 z λa k m=>?_;obtain ⟨Al,Ak,rfl,Ae,Ai⟩:=Aj;unfold Qbx at h;refine wr (pN 1 k z λa k=>nn (wp_seq (wr (pN 1 k z λa k=>sv k z (Qav (α:=Pair) Aa k underlying26 z z) λa k=>pN 1 k z λa k=>nn (wp_block (Qap (λn a w=>∃ (Ab:Int),K 19 [(0,v2),(1,(.func (.func Al) #[] Ak.toArray)),(7,I (Ac.length:Int)),(8,I Ab)] a ∧ St [] w0 w [] ∧ Qa6 fu Ac f5 n Ab = some r) ?_ ?_ fu _ _ ?_))))))
 · rintro a w ⟨_,_,_,h⟩;exact nS h
 · rintro As a Ap ⟨Ab,k,m,h⟩;rw [Qa6.eq_2] at h;unfold Qb4 at h;refine wr (pN 1 k z λa k=>nn (wp_seq (cI h k z (λAf h=>?_) λAf h=>?_)))
   · refine wp_skip (Qaa ?_);refine wp_seq (wp_block (wr (pN 2 k z λa k=>nn (wr (pN 3 k z λa k=>oE h λAo Ad h=>sv k z (Qaj Aa Ad k Jbh z z z) λa k=>sv k z (Qg6 Aa (m.a00 (Enc.rd_lt Aa)) Ad Jb1 k z z) λa k=>oE h λAm Ah h=>Qvs k Ae z z z z z z (Ai _ _ _ _ m.ext z Ah) λAq Ar hR=>?_)))));obtain ⟨rfl,e⟩:=hR;refine ⟨_,z,λa k=>?_⟩;have m:=m.step e;refine nn (cI h k z (λAg h=>?_) λAg h=>?_)
     · refine wr (pN 2 k z λa k=>nn (wp_ret (Qaf (Qad (Qad (Qaf (Qad ?_)))))));refine fS h k m z z
     refine wp_skip (Qae (Qaa ?_));refine wp_region_lit (pN 2 k z λa k=>nn ?_);exact ⟨w64 (Ab + 1),k.keep [0,1,7,8] z,m.sl [] z,h⟩
   refine wp_exit (Qag (Qag (Qak (Qaa ?_))));refine wr (pN 1 k z λa k=>nn (wp_ret (fS h k m z z)))
 exact ⟨0,k.keep [0,1,7,8] z,m.sl [] z,h⟩
theorem Qgc (fu:Nat) {w0:World} (Ab:List Pair) (f5:Pair → Option Bool) {v2:Value} {F3:List Nat} (Aa:rd w0 F3 [v2] Ab) {v6:Value} (Ag:Qy7 Tryz.prog w0 v6 f5) {r:Bool}
    (h:Qa3 fu Ab f5 = some r) :
    Calls Tryz.prog 98 #[v2,v6] w0 λe w=>e = .returned (.bool (r)) ∧ Ext [] w0 w:=by
 refine en (vs:=[_,_]) func98 z ntmps98 z λa k m=>?_;obtain ⟨Al,Ak,rfl,Ad,Af⟩:=Ag;unfold Qa3 at h;refine wr (pN 1 k z λa k=>nn (wr (pN 2 k z λa k=>oE h λAj Ah h=>cC k m call177 z (Qo0 fu _ _ (m.r Aa) ⟨_,_,z,Ad,λw Ac Ae r e=>Af w Ac Ae r (m.ext.trans e (by simp))⟩ Ah) λAi e a k m=>pN 2 k z λa k=>nn (wp_ret (fS h k m z z)))))
theorem Qw7 (fu:Nat) {w0:World} (p1:Pair)  {r:Bool}
    (h:Qj2 fu p1 = some r) :
    Calls Tryz.prog 99 #[.agg (Flat.e (p1)).toArray] w0 λe w=>e = .returned (.bool (r)) ∧ Ext [] w0 w:=by
 refine en (vs:=[_]) func99 z ntmps99 z λa k m=>?_;unfold Qj2 at h;refine wr (Qa1 (cs:=[I p1.fA,I p1.fB]) m k z z z z z z λb2 w4 a k m e Ab=>pN 1 k z λa k=>nn (wr (fl Qzx t13 m 0 Ab k z z λa k=>oE h λx5 Ac h=>cC k m call56 z (Qcs fu _ _ _  Ac) λw9 e a k m=>pN 2 k z λa k=>Qal (!x5) (λAa=>?_) (λAa=>?_))))
 · have h:=Qau Aa h;refine rB k 7 z Aa λk=>pN 6 k z λa k=>nn (wp_ret (fS h k m z z))
 have h:=Qat Aa h;refine rB k 7 z Aa λk=>fl Qzw t13 m 0 Ab k z z λa k=>oE h λAe Ad h=>cC k m call56 z (Qcs fu _ _ _  Ad) λAf e a k m=>pN 3 k z λa k=>nn (wp_ret (fS h k m z z))
theorem Qdj (fu:Nat) {w0:World} (Ab:List Typ) (f5:Typ → Option Bool) {v2:Value} {F3:List Nat} (Aa:rd w0 F3 [v2] Ab) {v6:Value} (Ag:Qy7 Tryz.prog w0 v6 f5) {r:Bool}
    (h:Qax fu Ab f5 = some r) :
    Calls Tryz.prog 41 #[v2,v6] w0 λe w=>e = .returned (.bool (r)) ∧ Ext [] w0 w:=by
 refine en (vs:=[_,_]) func41 z ntmps41 z λa k m=>?_;obtain ⟨Al,Ak,rfl,Ad,Af⟩:=Ag;unfold Qax at h;refine wr (pN 1 k z λa k=>nn (wr (pN 2 k z λa k=>oE h λAj Ah h=>cC k m call108 z (Qg9 fu _ _ (m.r Aa) ⟨_,_,z,Ad,λw Ac Ae r e=>Af w Ac Ae r (m.ext.trans e (by simp))⟩ Ah) λAi e a k m=>pN 2 k z λa k=>nn (wp_ret (fS h k m z z)))))
theorem Q1y (fu:Nat) {w0:World} (x1:Typ)  {r:Bool}
    (h:Qr3 fu x1 = some r) :
    Calls Tryz.prog 101 #[.agg (Flat.e (x1)).toArray] w0 λe w=>e = .returned (.bool (r)) ∧ Ext [] w0 w:=by
 refine en (vs:=[_]) func101 z ntmps101 z λa k m=>?_;unfold Qr3 at h;refine wr (Qa1 (cs:=[I x1.f8,I x1.fW,I x1.fH,I x1.fD,I x1.f7,I x1.fV,I x1.fK]) m k z z z z z z λb2 w4 a k m e Aa=>pN 1 k z λa k=>nn (wr (fl Qs6 t13 m 0 Aa k z z λa k=>oE h λx5 As h=>cC k m call56 z (Qcs fu _ _ _  As) λw9 e a k m=>pN 1 k z λa k=>Qal (x5) (λAg=>?_) (λAg=>?_))))
 · have h:=Qau Ag h;refine rB k 6 z Ag λk=>fl Quy t13 m 0 Aa k z z λa k=>oE h λAj Ak h=>cC k m call176 z (Qet fu _  Ak) λAx e a k m=>pN 2 k z λa k=>Qal (Aj) (λAf=>?_) (λAf=>?_)
   · have h:=Qau Af h;refine rB k 11 z Af λk=>fl Que t13 m 0 Aa k z z λa k=>oE h λAh At h=>cC k m call176 z (Qet fu _  At) λAy e a k m=>pN 2 k z λa k=>Qal (Ah) (λAb=>?_) (λAb=>?_)
     · have h:=Qau Ab h;refine rB k 16 z Ab λk=>fl Qus t13 m 0 Aa k z z λa k=>oE h λAi Am h=>cC k m call176 z (Qet fu _  Am) λBa e a k m=>pN 2 k z λa k=>Qal (Ai) (λAe=>?_) (λAe=>?_)
       · have h:=Qau Ae h;refine rB k 21 z Ae λk=>fl Q1j t13 m 0 Aa k z z λa k=>oE h λAp Al h=>cC k m call56 z (Qcs fu _ _ _  Al) λAw e a k m=>pN 2 k z λa k=>Qal (Ap) (λAc=>?_) (λAc=>?_)
         · have h:=Qau Ac h;refine rB k 26 z Ac λk=>fl Qvi t13 m 0 Aa k z z λa k=>oE h λAr Aq h=>cC k m call56 z (Qcs fu _ _ _  Aq) λAz e a k m=>pN 2 k z λa k=>Qal (Ar) (λAd=>?_) (λAd=>?_)
           · have h:=Qau Ad h;refine rB k 31 z Ad λk=>fl Qu8 t13 m 0 Aa k z z λa k=>oE h λAv Ao h=>cC k m call56 z (Qcs fu _ _ _  Ao) λAu e a k m=>pN 2 k z λa k=>?_;have k:=k.keep [2] z;refine nn (wp_ret (fS h k m z z))
           have h:=Qat Ad h;refine rB k 31 z Ad λk=>pN 5 k z λa k=>?_;have k:=k.keep [2] z;refine nn (wp_ret (fS h k m z z))
         have h:=Qat Ac h;refine rB k 26 z Ac λk=>pN 10 k z λa k=>?_;have k:=k.keep [2] z;refine nn (wp_ret (fS h k m z z))
       have h:=Qat Ae h;refine rB k 21 z Ae λk=>pN 15 k z λa k=>?_;have k:=k.keep [2] z;refine nn (wp_ret (fS h k m z z))
     have h:=Qat Ab h;refine rB k 16 z Ab λk=>pN 20 k z λa k=>?_;have k:=k.keep [2] z;refine nn (wp_ret (fS h k m z z))
   have h:=Qat Af h;refine rB k 11 z Af λk=>pN 25 k z λa k=>?_;have k:=k.keep [2] z;refine nn (wp_ret (fS h k m z z))
 have h:=Qat Ag h;refine rB k 6 z Ag λk=>pN 30 k z λa k=>?_;have k:=k.keep [2] z;refine nn (wp_ret (fS h k m z z))
theorem Qwu (fu:Nat) {w0:World} (t1:Typ)  {r:Bool}
    (h:Qkq fu t1 = some r) :
    Calls Tryz.prog 100 #[.agg (Flat.e (t1)).toArray] w0 λe w=>e = .returned (.bool (r)) ∧ Ext [] w0 w:=by
 refine en (vs:=[_]) func100 z ntmps100 z λa k m=>?_;unfold Qkq at h;refine wr (Qa1 (cs:=[I t1.f8,I t1.fW,I t1.fH,I t1.fD,I t1.f7,I t1.fV,I t1.fK]) m k z z z z z z λb2 w4 a k m e Aa=>pN 1 k z λa k=>nn (wr (sv k z (rL Qtx m 0 Aa 0 k z) λa k=>oE h λx5 Ab h=>cC k m call101 z (Q1y fu (t1:Typ)  Ab) λw9 e a k m=>pN 2 k z λa k=>nn (wp_ret (fS h k m z z)))))
theorem Q2u (fu:Nat) {w0:World} (x1:Item)  {r:Bool}
    (h:Qrn fu x1 = some r) :
    Calls Tryz.prog 102 #[.agg (Flat.e (x1)).toArray] w0 λe w=>e = .returned (.bool (r)) ∧ Ext [] w0 w:=by
 refine en (vs:=[_]) func102 z ntmps102 z λa k m=>?_;unfold Qrn at h;refine wr (Qa1 (cs:=[I x1.f8,I x1.fW,I x1.fH,I x1.fD,I x1.fV,I x1.fF,I x1.f0]) m k z z z z z z λb2 w4 a k m e Aa=>pN 1 k z λa k=>nn (wr (fl Q1i t13 m 0 Aa k z z λa k=>oE h λx5 As h=>cC k m call56 z (Qcs fu _ _ _  As) λw9 e a k m=>pN 1 k z λa k=>Qal (x5) (λAg=>?_) (λAg=>?_))))
 · have h:=Qau Ag h;refine rB k 6 z Ag λk=>fl Qzv t13 m 0 Aa k z z λa k=>oE h λAj Ak h=>cC k m call176 z (Qet fu _  Ak) λAx e a k m=>pN 2 k z λa k=>Qal (Aj) (λAf=>?_) (λAf=>?_)
   · have h:=Qau Af h;refine rB k 11 z Af λk=>fl Qzn t13 m 0 Aa k z z λa k=>oE h λAh At h=>cC k m call176 z (Qet fu _  At) λAy e a k m=>pN 2 k z λa k=>Qal (Ah) (λAb=>?_) (λAb=>?_)
     · have h:=Qau Ab h;refine rB k 16 z Ab λk=>fl Qxq t13 m 0 Aa k z z λa k=>oE h λAi Am h=>cC k m call176 z (Qet fu _  Am) λBa e a k m=>pN 2 k z λa k=>Qal (Ai) (λAe=>?_) (λAe=>?_)
       · have h:=Qau Ae h;refine rB k 21 z Ae λk=>fl Qxt t13 m 0 Aa k z z λa k=>oE h λAp Al h=>cC k m call56 z (Qcs fu _ _ _  Al) λAw e a k m=>pN 2 k z λa k=>Qal (Ap) (λAc=>?_) (λAc=>?_)
         · have h:=Qau Ac h;refine rB k 26 z Ac λk=>fl Qwa t13 m 0 Aa k z z λa k=>oE h λAr Aq h=>cC k m call56 z (Qcs fu _ _ _  Aq) λAz e a k m=>pN 2 k z λa k=>Qal (Ar) (λAd=>?_) (λAd=>?_)
           · have h:=Qau Ad h;refine rB k 31 z Ad λk=>fl Qxp t13 m 0 Aa k z z λa k=>oE h λAv Ao h=>cC k m call56 z (Qcs fu _ _ _  Ao) λAu e a k m=>pN 2 k z λa k=>?_;have k:=k.keep [2] z;refine nn (wp_ret (fS h k m z z))
           have h:=Qat Ad h;refine rB k 31 z Ad λk=>pN 5 k z λa k=>?_;have k:=k.keep [2] z;refine nn (wp_ret (fS h k m z z))
         have h:=Qat Ac h;refine rB k 26 z Ac λk=>pN 10 k z λa k=>?_;have k:=k.keep [2] z;refine nn (wp_ret (fS h k m z z))
       have h:=Qat Ae h;refine rB k 21 z Ae λk=>pN 15 k z λa k=>?_;have k:=k.keep [2] z;refine nn (wp_ret (fS h k m z z))
     have h:=Qat Ab h;refine rB k 16 z Ab λk=>pN 20 k z λa k=>?_;have k:=k.keep [2] z;refine nn (wp_ret (fS h k m z z))
   have h:=Qat Af h;refine rB k 11 z Af λk=>pN 25 k z λa k=>?_;have k:=k.keep [2] z;refine nn (wp_ret (fS h k m z z))
 have h:=Qat Ag h;refine rB k 6 z Ag λk=>pN 30 k z λa k=>?_;have k:=k.keep [2] z;refine nn (wp_ret (fS h k m z z))
theorem Qzt (fu:Nat) {w0:World} (r1:Request) {As:List Value} {F3:List Nat} (Bg:rd w0 F3 As r1) {r:Bool}
    (h:Qod fu r1 = some r) :
    Calls Tryz.prog 35 #[.agg As.toArray] w0 λe w=>e = .returned (.bool (r)) ∧ Ext [] w0 w:=by
 refine en (vs:=[_]) func35 z ntmps35 z λa k m=>?_;obtain ⟨v5,F6,v7,F8,v9,Br,rfl,rfl,Am,Ao,Ah⟩:=Bg;unfold Qod at h;refine wr (Qa1 (cs:=(cR r1 v5 v7 v9)) m k z z z z z z λAk Aq a k m e Aa=>pN 1 k z λa k=>nn (Qb3 (λa w=>K 70 [(1,pt Ak)] a ∧ St [] w0 w [([Ak],Aq)] ∧ Qnd fu r1 = some r) ?_ ?_))
 · rintro a Ce ⟨k,m,h⟩;unfold Qnd at h;refine wp_seq (wr (fl Qol Q07 m 0 Aa k z z λa k=>oE h λCi Bh h=>cC k m call98 z (Qgc fu _ _ (m.r Am) ⟨99,[],z,call99,λw Ch Ca r e Bo hx=>by subst Bo; have m:=m.step e; exact Qw7 fu _  hx⟩ Bh) λCf e a k m=>nn (cI h k rfl (λAx h=>?_) λAx h=>?_)))
   · refine wr (pN 1 k z λa k=>nn (wp_ret (Qad ?_)));refine fS h k m z z
   refine wp_skip (Qaa ?_);refine Qb3 (λa w=>K 70 [(1,pt Ak)] a ∧ St [] w0 w [([Ak],Aq)] ∧ Qn1 fu r1 = some r) ?_ ?_
   · rintro a Cl ⟨k,m,h⟩;unfold Qn1 at h;refine wr (pN 1 k z λa k=>nn (wp_seq (wr (fl Qg7 Qvo m 0 Aa k z z λa k=>sv k z (Qav (α:=Item) Ah k underlying28 z z) λa k=>pN 1 k z λa k=>nn (wp_block (Qap (λn a w=>∃ (Al:Int) (Aj:Int),K 70 [(3,I Al),(54,v9),(55,I (r1.fG.length:Int)),(56,I Aj)] a ∧ St [] w0 w [] ∧ Qen fu r1 n Al Aj = some r) ?_ ?_ fu _ _ ?_))))))
     · rintro a w ⟨_,_,_,_,h⟩;exact nS h
     · rintro Bz a Bw ⟨Al,Aj,k,m,h⟩;rw [Qen.eq_2] at h;unfold Qj0 at h;refine wr (pN 1 k z λa k=>nn (wp_seq (cI h k z (λBj h=>?_) λBj h=>?_)))
       · refine wp_skip (Qaa ?_);refine wp_seq (wp_block (wr (oE h λAb Ap h=>sv k z (Qaj Ah Ap k Qz3 z z z) λa k=>sv k z (Qg6 Ah (m.a00 (Enc.rd_lt Ah)) Ap Q1n k z z) λa k=>Qan (cs:=[I 0,I 0,I 0,I 0,I 0,I 0,I 0]) m k zeroValue72 z z z z z λBx Ck a k m e Bf=>sT (cs':=[I Ab.f8,I Ab.fW,I Ab.fH,I Ab.fD,I Ab.fV,I Ab.fF,I Ab.f0]) sizeOf72 m 0 Bf 0 k z z λCc a k e m Ar=>nn (wp_seq (wr (sv k z (rL Q1n m 0 Ar 0 k z) λa k=>oE h λCd Bl h=>cC k m call102 z (Q2u fu (Ab:Item)  Bl) λBt e a k m=>?_))))));refine pN 1 k z λa k=>nn (cI h k z (λAt h=>?_) λAt h=>?_)
         · refine wr (pN 1 k z λa k=>nn (wp_ret (Qad (Qaf (Qad (Qad (Qaf (Qad ?_))))))));refine fS h k m z z
         refine wp_skip (Qaa ?_);refine wp_region_lit (pN 1 k z λa k=>fl Qxp t13 m 0 Ar k z z λa k=>pN 2 k z λa k=>wpList_nil (Qae (Qaa ?_)));refine wp_region_lit (pN 2 k z λa k=>nn ?_);exact ⟨w64 (Al + Ab.f0),w64 (Aj + 1),k.keep [3,54,55,56] z,m.sl [] z,h⟩
       refine wp_exit (Qag (Qag (Qak (Qaa ?_))));refine wr (pN 3 k z λa k=>nn (wp_ret (fS h k m z z)))
     exact ⟨0,0,k.keep [3,54,55,56] z,m.sl [] z,h⟩
   refine wr (fl Qeg t127 m 0 Aa k z z λa k=>sv k z (Qav (α:=Typ) Ao k underlying27 z z) λa k=>oE h λBp Av h=>cC k m call56 z (Qcs fu _ _ _  Av) λBu e a k m=>pN 2 k z λa k=>Qal (!Bp) (λAf=>?_) (λAf=>?_))
   · have h:=Qau Af h;refine rB k 36 z Af λk=>pN 16 k z λa k=>?_;have k:=k.keep [1,52] z;refine nn (wp_cond_true (k.ev z) (wr (pN 1 k z λa k=>nn (wp_ret (Qad ?_)))));refine fS h k m z z
   have h:=Qat Af h;refine rB k 36 z Af λk=>fl Qeg t127 m 0 Aa k z z λa k=>oE h λBa Bc h=>cC k m call41 z (Qdj fu _ _ (m.r Ao) ⟨100,[],z,call100,λw Bq Bv r e Bk hx=>by subst Bk; have m:=m.step e; exact Qwu fu _  hx⟩ Bc) λCb e a k m=>pN 2 k rfl λa k=>Qal (Ba) (λAd=>?_) (λAd=>?_)
   · have h:=Qau Ad h;refine rB k 41 z Ad λk=>pN 11 k z λa k=>?_;have k:=k.keep [1,52] z;refine nn (wp_cond_true (k.ev z) (wr (pN 1 k z λa k=>nn (wp_ret (Qad ?_)))));refine fS h k m z z
   have h:=Qat Ad h;refine rB k 41 z Ad λk=>fl Q3l t13 m 0 Aa k z z λa k=>oE h λBe Bm h=>cC k m call56 z (Qcs fu _ _ _  Bm) λBy e a k m=>pN 3 k z λa k=>Qal (!Be) (λAe=>?_) (λAe=>?_)
   · have h:=Qau Ae h;refine rB k 47 z Ae λk=>pN 5 k z λa k=>?_;have k:=k.keep [1,52] z;refine nn (wp_cond_true (k.ev z) (wr (pN 1 k z λa k=>nn (wp_ret (Qad ?_)))));refine fS h k m z z
   have h:=Qat Ae h;refine rB k 47 z Ae λk=>fl Qg7 Qvo m 0 Aa k z z λa k=>sv k z (Qav (α:=Item) Ah k underlying28 z z) λa k=>pN 2 k z λa k=>?_;have k:=k.keep [1,52] z;refine nn (cI h k z (λBi h=>?_) λBi h=>?_)
   · refine wr (pN 1 k z λa k=>nn (wp_ret (Qad ?_)));refine fS h k m z z
   refine wp_skip (Qaa ?_);exact ⟨k.keep [1] z,m.sl [0] z,h⟩
 refine wr (fl Q6e t13 m 0 Aa k z z λa k=>oE h λAw Bn h=>cC k m call56 z (Qcs fu _ _ _  Bn) λCg e a k m=>pN 2 k z λa k=>Qal (!Aw) (λAc=>?_) (λAc=>?_))
 · have h:=Qau Ac h;refine rB k 10 z Ac λk=>pN 17 k z λa k=>nn (wp_cond_true (k.ev z) (wr (pN 1 k z λa k=>?_)));have k:=k.keep [2] z;refine nn (wp_ret (Qad ?_));refine fS h k m z z
 have h:=Qat Ac h;refine rB k 10 z Ac λk=>sv k z (Qh5 Qti k z z) λa k=>sv k z (rL Q28 m 0 Aa 1 k z) λa k=>oE h λAu Bd h=>cC k m call97 z (Qzd fu (r1.fJ:Pallet)  Bd) λBs e a k m=>pN 3 k z λa k=>Qal (!Au) (λAi=>?_) (λAi=>?_)
 · have h:=Qau Ai h;refine rB k 16 z Ai λk=>pN 11 k z λa k=>nn (wp_cond_true (k.ev z) (wr (pN 1 k z λa k=>?_)));have k:=k.keep [2] z;refine nn (wp_ret (Qad ?_));refine fS h k m z z
 have h:=Qat Ai h;refine rB k 16 z Ai λk=>fl Qt1 t13 m 0 Aa k z z λa k=>oE h λAz Bb h=>cC k m call56 z (Qcs fu _ _ _  Bb) λCj e a k m=>pN 3 k z λa k=>Qal (!Az) (λAg=>?_) (λAg=>?_)
 · have h:=Qau Ag h;refine rB k 22 z Ag λk=>pN 5 k z λa k=>nn (wp_cond_true (k.ev z) (wr (pN 1 k z λa k=>?_)));have k:=k.keep [2] z;refine nn (wp_ret (Qad ?_));refine fS h k m z z
 have h:=Qat Ag h;refine rB k 22 z Ag λk=>fl Qol Q07 m 0 Aa k z z λa k=>sv k z (Qav (α:=Pair) Am k underlying26 z z) λa k=>pN 2 k z λa k=>nn (cI h k z (λAy h=>?_) λAy h=>?_)
 · refine wr (pN 1 k z λa k=>?_);have k:=k.keep [2] z;refine nn (wp_ret (Qad ?_));refine fS h k m z z
 refine wp_skip (Qaa ?_);exact ⟨k.keep [1] z,m.sl [0] z,h⟩
theorem Qxz (fu:Nat) {w0:World} (q1:Typ) (x2:Typ) {b3:Nat} (Aa:bx w0 b3 [I x2.f8,I x2.fW,I x2.fH,I x2.fD,I x2.f7,I x2.fV,I x2.fK] 65) {r:Bool}
    (h:Qqr fu q1 x2 = some r) :
    Calls Tryz.prog 103 #[.agg (Flat.e (q1)).toArray,pt b3] w0 λe w=>e = .returned (.bool (r)) ∧ Ext [] w0 w:=by
 refine en (vs:=[_,_]) func103 z ntmps103 z λa k m=>?_;unfold Qqr at h;refine wr (Qa1 (cs:=[I q1.f8,I q1.fW,I q1.fH,I q1.fD,I q1.f7,I q1.fV,I q1.fK]) m k z z z z z z λb5 w7 a k m e Ab=>pN 1 k z λa k=>nn (wr (fl Qs6 t13 m 0 Ab k z z λa k=>sv k z (Qh5 Qs6 k z z) λa k=>sv k z (Qam t13 (r:=[]) (Aa.at (m.a00 Aa.lt1) 0 1 z z z) k z z) λa k=>pN 2 k z λa k=>nn (wp_ret (fS h k m z z)))))
theorem Qya (fu:Nat) {w0:World} (q1:Item) (x2:Item) {b3:Nat} (Aa:bx w0 b3 [I x2.f8,I x2.fW,I x2.fH,I x2.fD,I x2.fV,I x2.fF,I x2.f0] 72) {r:Bool}
    (h:Qqs fu q1 x2 = some r) :
    Calls Tryz.prog 104 #[.agg (Flat.e (q1)).toArray,pt b3] w0 λe w=>e = .returned (.bool (r)) ∧ Ext [] w0 w:=by
 refine en (vs:=[_,_]) func104 z ntmps104 z λa k m=>?_;unfold Qqs at h;refine wr (Qa1 (cs:=[I q1.f8,I q1.fW,I q1.fH,I q1.fD,I q1.fV,I q1.fF,I q1.f0]) m k z z z z z z λb5 w7 a k m e Ab=>pN 1 k z λa k=>nn (wr (fl Q1i t13 m 0 Ab k z z λa k=>sv k z (Qh5 Q1i k z z) λa k=>sv k z (Qam t13 (r:=[]) (Aa.at (m.a00 Aa.lt1) 0 1 z z z) k z z) λa k=>pN 2 k z λa k=>nn (wp_ret (fS h k m z z)))))
theorem Qpl (fu:Nat) {w0:World} (Ac:List Item) (f5:Item → Option Bool) {v2:Value} {F3:List Nat} (Aa:rd w0 F3 [v2] Ac) {v6:Value} (Aj:Qy7 Tryz.prog w0 v6 f5) {r:Int}
    (h:Qby fu Ac f5 = some r) :
    Calls Tryz.prog 107 #[v2,v6] w0 λe w=>e = .returned (I r) ∧ Ext [] w0 w:=by
 refine en (vs:=[_,_]) func107 z ntmps107 z λa k m=>?_;obtain ⟨Al,Ak,rfl,Ae,Ai⟩:=Aj;unfold Qby at h;refine wr (pN 1 k z λa k=>nn (wp_seq (wr (pN 1 k z λa k=>sv k z (Qav (α:=Item) Aa k underlying28 z z) λa k=>pN 1 k z λa k=>nn (wp_block (Qap (λn a w=>∃ (Ab:Int),K 19 [(0,v2),(1,(.func (.func Al) #[] Ak.toArray)),(7,I (Ac.length:Int)),(8,I Ab)] a ∧ St [] w0 w [] ∧ Qa4 fu Ac f5 n Ab = some r) ?_ ?_ fu _ _ ?_))))))
 · rintro a w ⟨_,_,_,h⟩;exact nS h
 · rintro As a Ap ⟨Ab,k,m,h⟩;rw [Qa4.eq_2] at h;unfold Qb5 at h;refine wr (pN 1 k z λa k=>nn (wp_seq (cI h k z (λAf h=>?_) λAf h=>?_)))
   · refine wp_skip (Qaa ?_);refine wp_seq (wp_block (wr (pN 2 k z λa k=>nn (wr (pN 3 k z λa k=>oE h λAo Ad h=>sv k z (Qaj Aa Ad k Qz3 z z z) λa k=>sv k z (Qg6 Aa (m.a00 (Enc.rd_lt Aa)) Ad Q1n k z z) λa k=>oE h λAm Ah h=>Qvs k Ae z z z z z z (Ai _ _ _ _ m.ext z Ah) λAq Ar hR=>?_)))));obtain ⟨rfl,e⟩:=hR;refine ⟨_,z,λa k=>?_⟩;have m:=m.step e;refine nn (cI h k z (λAg h=>?_) λAg h=>?_)
     · refine wr (pN 2 k z λa k=>nn (wp_ret (Qaf (Qad (Qad (Qaf (Qad ?_)))))));refine fS h k m z z
     refine wp_skip (Qae (Qaa ?_));refine wp_region_lit (pN 2 k z λa k=>nn ?_);exact ⟨w64 (Ab + 1),k.keep [0,1,7,8] z,m.sl [] z,h⟩
   refine wp_exit (Qag (Qag (Qak (Qaa ?_))));refine wr (pN 1 k z λa k=>nn (wp_ret (fS h k m z z)))
 exact ⟨0,k.keep [0,1,7,8] z,m.sl [] z,h⟩
theorem Qce (fu:Nat) {w0:World} (Ab:List Item) (f5:Item → Option Bool) {v2:Value} {F3:List Nat} (Aa:rd w0 F3 [v2] Ab) {v6:Value} (Ag:Qy7 Tryz.prog w0 v6 f5) {r:Bool}
    (h:Qay fu Ab f5 = some r) :
    Calls Tryz.prog 38 #[v2,v6] w0 λe w=>e = .returned (.bool (r)) ∧ Ext [] w0 w:=by
 refine en (vs:=[_,_]) func38 z ntmps38 z λa k m=>?_;obtain ⟨Al,Ak,rfl,Ad,Af⟩:=Ag;unfold Qay at h;refine wr (pN 1 k z λa k=>nn (wr (pN 2 k z λa k=>oE h λAj Ah h=>cC k m call107 z (Qpl fu _ _ (m.r Aa) ⟨_,_,z,Ad,λw Ac Ae r e=>Af w Ac Ae r (m.ext.trans e (by simp))⟩ Ah) λAi e a k m=>pN 2 k z λa k=>nn (wp_ret (fS h k m z z)))))
theorem Qyf (fu:Nat) {w0:World} (p1:Pair) (x2:Request) {v5:Value} {F6:List Nat} {v8:Value} {F9:List Nat} {Ac:Value} {Ae:List Nat} {b3:Nat} (Ab:bx w0 b3 (cR x2 v5 v8 Ac) 30) (Ah:rd w0 F6 [v5] x2.fL) (Af:rd w0 F9 [v8] x2.fT) (Ai:rd w0 Ae [Ac] x2.fG) {r:Bool}
    (h:Qmo fu p1 x2 = some r) :
    Calls Tryz.prog 105 #[.agg (Flat.e (p1)).toArray,pt b3] w0 λe w=>e = .returned (.bool (r)) ∧ Ext [] w0 w:=by
 refine en (vs:=[_,_]) func105 z ntmps105 z λa k m=>?_;unfold Qmo at h;refine wr (Qa1 (cs:=[I p1.fA,I p1.fB]) m k z z z z z z λAg Aj a k m e Ad=>pN 1 k z λa k=>nn (wr (fl Qzx t13 m 0 Ad k z z λa k=>sv k z (Qh5 Qt1 k z z) λa k=>sv k z (Qam t13 (r:=[]) (Ab.at (m.a00 Ab.lt1) 5 1 z z z) k z z) λa k=>pN 2 k z λa k=>Qal (decide (p1.fA ≥ x2.fR)) (λAa=>?_) (λAa=>?_))))
 · have h:=Qau Aa h;refine rB k 9 z Aa λk=>pN 7 k z λa k=>nn (wp_ret (fS h k m z z))
 have h:=Qat Aa h;refine rB k 9 z Aa λk=>fl Qzw t13 m 0 Ad k z z λa k=>sv k z (Qh5 Qt1 k z z) λa k=>sv k z (Qam t13 (r:=[]) (Ab.at (m.a00 Ab.lt1) 5 1 z z z) k z z) λa k=>pN 3 k z λa k=>nn (wp_ret (fS h k m z z))
theorem Q0k (fu:Nat) {w0:World} (r1:Request) {Ar:List Value} {F3:List Nat} (Bg:rd w0 F3 Ar r1) {r:Bool}
    (h:Qp5 fu r1 = some r) :
    Calls Tryz.prog 36 #[.agg Ar.toArray] w0 λe w=>e = .returned (.bool (r)) ∧ Ext [] w0 w:=by
 refine en (vs:=[_]) func36 z ntmps36 z λa k m=>?_;obtain ⟨v5,F6,v7,F8,v9,Bp,rfl,rfl,Ah,Aa,Ab⟩:=Bg;unfold Qp5 at h;refine wr (Qa1 (cs:=(cR r1 v5 v7 v9)) m k z z z z z z λAf Am a k m e Ae=>pN 1 k z λa k=>nn (wp_seq (wr (fl Qeg t127 m 0 Ae k z z λa k=>sv k z (Qav (α:=Typ) Aa k underlying27 z z) λa k=>pN 1 k z λa k=>nn (wp_block (Qap (λn a w=>∃ (Al:Int),K 59 [(1,pt Af),(10,v7),(11,I (r1.fT.length:Int)),(12,I Al)] a ∧ St [] w0 w [([Af],Am)] ∧ Qfa fu r1 n Al = some r) ?_ ?_ fu _ _ ?_))))))
 · rintro a w ⟨_,_,_,h⟩;exact nS h
 · rintro Cl a Cc ⟨Al,k,m,h⟩;rw [Qfa.eq_2] at h;unfold Qlh at h;refine wr (pN 1 k z λa k=>nn (wp_seq (cI h k z (λBc h=>?_) λBc h=>?_)))
   · refine wp_skip (Qaa ?_);refine wp_seq (wp_block (wr (pN 1 k z λa k=>oE h λAg At h=>sv k z (Qaj Aa At k Q3b z z z) λa k=>sv k z (Qg6 Aa (m.a00 (Enc.rd_lt Aa)) At Qtx k z z) λa k=>Qan (cs:=[I 0,I 0,I 0,I 0,I 0,I 0,I 0]) m k zeroValue65 z z z z z λBb Cb a k m e Ax=>pN 1 k z λa k=>sT (cs':=[I Ag.f8,I Ag.fW,I Ag.fH,I Ag.fD,I Ag.f7,I Ag.fV,I Ag.fK]) sizeOf65 m 0 Ax 0 k z z λBz a k e m Av=>nn (wr (fl Qeg t127 m 1 Ae k z z λa k=>pN 1 k z λa k=>oE h λBy Ba h=>?_)))));refine Q8n Aa Ba k Q3b z z z z z z λCq a k Ap=>pN 1 k z λa k=>oE h λBt Bh h=>cC k m call41 z (Qdj fu _ _ (m.r Ap) ⟨103,[pt Bb],z,call103,λw Bs Ce r e Be hx=>by subst Be; have m:=m.step e; exact Qxz fu _ _ (Av.agr (m.a 0 rfl) (by simp)) hx⟩ Bh) λCo e a k m=>nn (cI h k rfl (λAy h=>?_) λAy h=>?_)
     · refine wr (pN 1 k z λa k=>nn (wp_ret (Qaf (Qad (Qad (Qaf (Qad ?_)))))));refine fS h k m z z
     refine wp_skip (Qae (Qaa ?_));refine wp_region_lit (pN 2 k z λa k=>nn ?_);exact ⟨w64 (Al + 1),k.keep [1,10,11,12] z,m.sl [1] z,h⟩
   refine wp_exit (Qag (Qag (Qak (Qaa ?_))));refine wp_seq (wr (fl Qg7 Qvo m 0 Ae k z z λa k=>sv k z (Qav (α:=Item) Ab k underlying28 z z) λa k=>pN 1 k z λa k=>nn (wp_block (Qap (λn a w=>∃ (Ai:Int),K 59 [(1,pt Af),(25,v9),(26,I (r1.fG.length:Int)),(27,I Ai)] a ∧ St [] w0 w [([Af],Am)] ∧ Qdb fu r1 n Ai = some r) ?_ ?_ fu _ _ ?_))))
   · rintro a w ⟨_,_,_,h⟩;exact nS h
   · rintro Az a Br ⟨Ai,k,m,h⟩;rw [Qdb.eq_2] at h;unfold Qli at h;refine wr (pN 1 k z λa k=>nn (wp_seq (cI h k z (λBl h=>?_) λBl h=>?_)))
     · refine wp_skip (Qaa ?_);refine Qb3 (λa w=>K 59 [(1,pt Af),(25,v9),(26,I (r1.fG.length:Int)),(27,I Ai)] a ∧ St [] w0 w [([Af],Am)] ∧ Qpf fu (Qdb fu r1 Az) Ai = some r) ?_ ?_
       · rintro a Ci ⟨k,m,h⟩;unfold Qpf at h;refine wp_region_lit (pN 2 k z λa k=>nn ?_);exact ⟨w64 (Ai + 1),k.keep [1,25,26,27] z,m.sl [0] z,h⟩
       refine wp_block (wr (pN 1 k z λa k=>oE h λAd Ao h=>sv k z (Qaj Ab Ao k Qz3 z z z) λa k=>sv k z (Qg6 Ab (m.a00 (Enc.rd_lt Ab)) Ao Q1n k z z) λa k=>Qan (cs:=[I 0,I 0,I 0,I 0,I 0,I 0,I 0]) m k zeroValue72 z z z z z λBj Bx a k m e Bd=>pN 1 k z λa k=>sT (cs':=[I Ad.f8,I Ad.fW,I Ad.fH,I Ad.fD,I Ad.fV,I Ad.fF,I Ad.f0]) sizeOf72 m 0 Bd 0 k z z λCf a k e m Aq=>nn (wr (fl Qwa t13 m 0 Aq k z z λa k=>sv k z (Qh5 Qt1 k z z) λa k=>?_))));refine sv k z (Qri t13 m 1 Ae 5 k z z z z z) λa k=>pN 2 k z λa k=>Qal (decide (Ad.fF ≥ r1.fR)) (λAj=>?_) (λAj=>?_)
       · have h:=Qau Aj h;refine rB k 37 z Aj λk=>pN 7 k z λa k=>nn (wp_cond_true (k.ev z) (wr (pN 1 k z λa k=>nn (wp_ret (Qaf (Qad (Qad (Qaf (Qad ?_)))))))));refine fS h k m z z
       have h:=Qat Aj h;refine rB k 37 z Aj λk=>fl Qg7 Qvo m 1 Ae k z z λa k=>pN 1 k z λa k=>oE h λBw Au h=>Q8n Ab Au k Qz3 z z z z z z λCk a k As=>pN 1 k z λa k=>oE h λCg Bk h=>cC k m call38 z (Qce fu _ _ (m.r As) ⟨104,[pt Bj],z,call104,λw Cm Cd r e Aw hx=>by subst Aw; have m:=m.step e; exact Qya fu _ _ (Aq.agr (m.a 0 rfl) (by simp)) hx⟩ Bk) λCr e a k m=>pN 1 k rfl λa k=>nn (cI h k rfl (λBm h=>?_) λBm h=>?_)
       · refine wr (pN 1 k z λa k=>nn (wp_ret (Qaf (Qad (Qad (Qaf (Qad ?_)))))));refine fS h k m z z
       refine wp_skip (Qae (Qaa ?_));exact ⟨k.keep [1,25,26,27] z,m.sl [1] z,h⟩
     refine wp_exit (Qag (Qag (Qak (Qaa ?_))));refine wr (sv k z (rL Qeb m 0 Ae 0 k z) λa k=>oE h λAc Bf h=>cC k m call34 z (Quh fu _ (Qah (m.r Ah) (m.r Aa) (m.r Ab)) Bf) λCa e a k m=>pN 3 k z λa k=>Qan (cs:=[I 0,I 0,I 0,I 0,I 0,I 0,I 0]) m k zeroValue65 z z z z z λCs Bq a k m e Bo=>?_);refine sT (cs':=[I Ac.1.f8,I Ac.1.fW,I Ac.1.fH,I Ac.1.fD,I Ac.1.f7,I Ac.1.fV,I Ac.1.fK]) sizeOf65 m 0 Bo 0 k z z λBv a k e m Cp=>pN 1 k z λa k=>nn (wr (pN 2 k z λa k=>Qal (Ac.2) (λAk=>?_) (λAk=>?_)))
     · have h:=Qau Ak h;refine rB k 52 z Ak λk=>fl Qol Q07 m 1 Ae k z z λa k=>pN 1 k z λa k=>oE h λCn Bi h=>cC k m call98 z (Qgc fu _ _ (m.r Ah) ⟨105,[pt Af],z,call105,λw Ch Cj r e Bn hx=>by subst Bn; have m:=m.step e; exact Qyf fu _ _ (Ae.agr (m.a 1 rfl) (by simp)) (m.r Ah) (m.r Aa) (m.r Ab) hx⟩ Bi) λBu e a k m=>pN 3 k rfl λa k=>nn (wp_ret (fS h k m rfl rfl))
     have h:=Qat Ak h;refine rB k 52 z Ak λk=>pN 7 k z λa k=>nn (wp_ret (fS h k m z z))
   exact ⟨0,k.keep [1,25,26,27] z,m.sl [0] z,h⟩
 exact ⟨0,k.keep [1,10,11,12] z,m.sl [0] z,h⟩
theorem Qra (fu:Nat) {w0:World} (Ac:List Pair) (v5:Pair) {v2:Value} {F3:List Nat} (Ab:rd w0 F3 [v2] Ac) {r:Int}
    (h:Qc9 fu Ac v5 = some r) :
    Calls Tryz.prog 218 #[v2,.agg (Flat.e (v5)).toArray] w0 λe w=>e = .returned (I r) ∧ Ext [] w0 w:=by
 refine en (vs:=[_,_]) func218 z ntmps218 z λa k m=>?_;unfold Qc9 at h;refine wr (Qa1 (cs:=[I v5.fA,I v5.fB]) m k z z z z z z λb6 w9 a k m e Ah=>pN 1 k z λa k=>nn (wp_seq (wr (pN 1 k z λa k=>sv k z (Qav (α:=Pair) Ab k underlying26 z z) λa k=>pN 1 k z λa k=>nn (wp_block (Qap (λn a w=>∃ (Aa:Int),K 19 [(0,v2),(3,pt b6),(7,I (Ac.length:Int)),(8,I Aa)] a ∧ St [] w0 w [([b6],w9)] ∧ Qbc fu Ac v5 n Aa = some r) ?_ ?_ fu _ _ ?_))))))
 · rintro a w ⟨_,_,_,h⟩;exact nS h
 · rintro Ak a Aj ⟨Aa,k,m,h⟩;rw [Qbc.eq_2] at h;unfold Qcn at h;refine wr (pN 1 k z λa k=>nn (wp_seq (cI h k z (λAi h=>?_) λAi h=>?_)))
   · refine wp_skip (Qaa ?_);refine wp_seq (wp_block (wr (pN 2 k z λa k=>nn (wp_seq (Qhe [] Qg5 m z λAe hMd=>?_)))));have m:=hMd;have s:=Ext.refl ([]:List Nat) Ae;refine dM [1,2] 2 z k z s λa k=>dT k 0 z z s (λw s=>Qbw Jb1 (Ah.at ((hMd.step s).a 0 z) 0 2 z z z) z k z z) λa k=>oE h λAf Ad h=>dT k 3 z z s (λw s=>Qaj Ab Ad k Jbh z z z) λa k=>dT k 4 z z s (λw s=>Qg6 Ab ((hMd.step s).a00 (Enc.rd_lt Ab)) Ad Jb1 k z z) λa k=>dT k 5 z z s (λw s=>Jiy Jfv (x:=v5) (y:=Af) k z z z z z) λa k=>dD ((Qaa ?_));refine cI h k z (λAg h=>?_) λAg h=>?_
     · refine wr (pN 2 k z λa k=>nn (wp_ret (Qaf (Qad (Qad (Qaf (Qad ?_)))))));refine fS h k m z z
     refine wp_skip (Qae (Qaa ?_));refine wp_region_lit (pN 2 k z λa k=>nn ?_);exact ⟨w64 (Aa + 1),k.keep [0,3,7,8] z,m.sl [0] z,h⟩
   refine wp_exit (Qag (Qag (Qak (Qaa ?_))));refine wr (pN 1 k z λa k=>nn (wp_ret (fS h k m z z)))
 exact ⟨0,k.keep [0,3,7,8] z,m.sl [0] z,h⟩
theorem Qpo (fu:Nat) {w0:World} (Ab:List Pair) (v5:Pair) {v2:Value} {F3:List Nat} (Aa:rd w0 F3 [v2] Ab) {r:Bool}
    (h:Qcu fu Ab v5 = some r) :
    Calls Tryz.prog 178 #[v2,.agg (Flat.e (v5)).toArray] w0 λe w=>e = .returned (.bool (r)) ∧ Ext [] w0 w:=by
 refine en (vs:=[_,_]) func178 z ntmps178 z λa k m=>?_;unfold Qcu at h;refine wr (Qa1 (cs:=[I v5.fA,I v5.fB]) m k z z z z z z λb6 w9 a k m e Ad=>pN 1 k z λa k=>nn (wr (pN 1 k z λa k=>sv k z (rL Jb1 m 0 Ad 0 k z) λa k=>oE h λAf Ac h=>cC k m call218 z (Qra fu _ (v5:Pair) (m.r Aa) Ac) λAe e a k m=>pN 2 k z λa k=>nn (wp_ret (fS h k m z z)))))
theorem Qre (fu:Nat) {w0:World} (Ab:List Pair) (a5:Int) (b6:Int) {v2:Value} {F3:List Nat} (Aa:rd w0 F3 [v2] Ab) {r:Bool}
    (h:Qhi fu Ab a5 b6 = some r) :
    Calls Tryz.prog 106 #[v2,I a5,I b6] w0 λe w=>e = .returned (.bool (r)) ∧ Ext [] w0 w:=by
 refine en (vs:=[_,_,_]) func106 z ntmps106 z λa k m=>?_;unfold Qhi at h;refine wr (pN 1 k z λa k=>nn (wr (pN 3 k z λa k=>sv k z (Qba Q99 k (cs:=#[I a5,I b6]) (ps:=[(0,.tmp 8),(1,.tmp 9)]) z z (by kernel_rfl)) λa k=>oE h λx7 Ac h=>cC k m call178 z (Qpo fu _ (⟨a5,b6⟩:Pair) (m.r Aa) Ac) λAd e a k m=>pN 1 k z λa k=>nn (wp_ret (fS h k m z z)))))
theorem Q00 (fu:Nat) {w0:World} (Ad:List Pair) (Aa:Int) {v2:Value} {F3:List Nat} (Ac:rd w0 F3 [v2] Ad) {r:Bool}
    (h:Qqb fu Ad Aa = some r) :
    Calls Tryz.prog 37 #[v2,I Aa] w0 λe w=>e = .returned (.bool (r)) ∧ Ext [] w0 w:=by
 refine en (vs:=[_,_]) func37 z ntmps37 z λa k m=>?_;unfold Qqb at h;refine wr (pN 1 k z λa k=>nn (wp_seq (wr (pN 1 k z λa k=>oE h λx6 Aj h=>cC k m call56 z (Qcs fu _ _ _  Aj) λw9 e a k m=>pN 1 k z λa k=>nn (cI h k z (λAo h=>?_) λAo h=>?_)))))
 · refine wr (pN 1 k z λa k=>nn (wp_ret (Qad ?_)));refine fS h k m z z
 refine wp_skip (Qaa ?_);refine wp_seq (wr (pN 2 k z λa k=>nn (wp_block (Qap (λn a w=>∃ (Ab:Int),K 34 [(0,v2),(1,I Aa),(10,I Aa),(11,I Ab)] a ∧ St [] w0 w [] ∧ Qfc fu Ad Aa n Ab = some r) ?_ ?_ fu _ _ ?_))))
 · rintro a w ⟨_,_,_,h⟩;exact nS h
 · rintro Am a Aq ⟨Ab,k,m,h⟩;rw [Qfc.eq_2] at h;unfold Qme at h;refine wr (pN 1 k z λa k=>nn (wp_seq (cI h k z (λAg h=>?_) λAg h=>?_)))
   · refine wp_skip (Qaa ?_);refine wp_seq (wp_block (wr (pN 2 k z λa k=>nn (wp_seq (wr (pN 3 k z λa k=>oE h λAu Ap h=>cC k m call106 z (Qre fu _ _ _ (m.r Ac) Ap) λAx e a k m=>pN 1 k z λa k=>nn (cI h k z (λAk h=>?_) λAk h=>?_)))))))
     · refine wr (pN 1 k z λa k=>nn (wp_ret (Qad (Qaf (Qad (Qad (Qaf (Qad ?_))))))));refine fS h k m z z
     refine wp_skip (Qaa ?_);refine wr (pN 2 k z λa k=>nn (wp_block (Qap (λn a w=>∃ (Ae:Int),K 34 [(0,v2),(1,I Aa),(5,I Ab),(10,I Aa),(11,I Ab),(19,I Aa),(20,I Ae)] a ∧ St [] w0 w [] ∧ Qe7 fu (Qfc fu Ad Aa Am) Ad Aa Ab n Ae = some r) ?_ ?_ fu _ _ ?_)))
     · rintro a w ⟨_,_,_,h⟩;exact nS h
     · rintro As a Aw ⟨Ae,k,m,h⟩;rw [Qe7.eq_2] at h;unfold Qmd at h;refine wr (pN 1 k z λa k=>nn (wp_seq (cI h k z (λAh h=>?_) λAh h=>?_)))
       · refine wp_skip (Qaa ?_);refine wp_seq (wp_block (wr (pN 2 k z λa k=>nn (wr (pN 3 k z λa k=>oE h λAr Af h=>cC k m call106 z (Qre fu _ _ _ (m.r Ac) Af) λAv e a k m=>pN 3 k z λa k=>oE h λAt Ai h=>cC k m call106 z (Qre fu _ _ _ (m.r Ac) Ai) λAy e a k m=>sv k z (Jee k underlying4 z z z) λa k=>nn (cI h k z (λAl h=>?_) λAl h=>?_))))))
         · refine wr (pN 1 k z λa k=>nn (wp_ret (Qaf (Qad (Qad (Qaf (Qaf (Qad (Qad (Qaf (Qad ?_)))))))))));refine fS h k m z z
         refine wp_skip (Qae (Qaa ?_));refine wp_region_lit (pN 2 k z λa k=>nn ?_);exact ⟨w64 (Ae + 1),k.keep [0,1,5,10,11,19,20] z,m.sl [] z,h⟩
       refine wp_exit (Qag (Qag (Qak (Qae (Qaa ?_)))));refine wp_region_lit (pN 2 k z λa k=>nn ?_);exact ⟨w64 (Ab + 1),k.keep [0,1,10,11] z,m.sl [] z,h⟩
     exact ⟨0,k.keep [0,1,5,10,11,19,20] z,m.sl [] z,h⟩
   refine wp_exit (Qag (Qag (Qak (Qaa ?_))));refine wr (pN 1 k z λa k=>nn (wp_ret (fS h k m z z)))
 exact ⟨0,k.keep [0,1,10,11] z,m.sl [] z,h⟩
theorem Qin (fu:Nat) {w0:World} (x1:List Int) {v2:Value} {F3:List Nat} (Aa:ow w0 F3 [v2] x1) {r:List Int}
    (h:Qc2 fu x1 = some r) :
    Calls Tryz.prog 68 #[v2] w0 λe w=>∃ H:List Nat,e = .returned (.tuple #[]) ∧ Ext F3 w0 w ∧ (∀ b ∈ H,b ∈ F3 ∨ w0.heap.size ≤ b) ∧ ow w H [v2] r :=
  (Q8b (λblk off cap zs w=>Tryz.slices_Sort_int blk off cap zs w) (λp cap w=>Tryz.slices_Sort_int_none p cap w) x1 Aa h).mono λe w ⟨h1,h2,h3⟩=>⟨_,h1,h2,λb hb=>.inl hb,h3⟩
theorem Qzf (fu:Nat) {w0:World} (x1:Item) (t2:Typ)  {r:Bool}
    (h:Qsm fu x1 t2 = some r) :
    Calls Tryz.prog 40 #[.agg (Flat.e (x1)).toArray,.agg (Flat.e (t2)).toArray] w0 λe w=>e = .returned (.bool (r)) ∧ Ext [] w0 w:=by
 refine en (vs:=[_,_]) func40 z ntmps40 z λa k m=>?_;unfold Qsm at h;refine wr (Qa1 (cs:=[I x1.f8,I x1.fW,I x1.fH,I x1.fD,I x1.fV,I x1.fF,I x1.f0]) m k z z z z z z λb3 w5 a k m e Af=>Qa1 (cs:=[I t2.f8,I t2.fW,I t2.fH,I t2.fD,I t2.f7,I t2.fV,I t2.fK]) m k z z z z z z λb6 w9 a k m e Ag=>pN 1 k z λa k=>nn ?_);refine Qb3 (λa w=>∃ (Aj:List Int) (Al:Value) (Ao:List Nat) (Ap:World) (Ai:List Int) (Ak:Value) (Am:List Nat) (Ah:World),K 57 [(2,pt b3),(3,pt b6),(5,Al),(6,Ak)] a ∧ St [] w0 w [([b3],w5),([b6],w9),(Ao,Ap),(Am,Ah)] ∧ ow Ap Ao [Al] Aj ∧ ow Ah Am [Ak] Ai ∧ Qst fu x1 t2 Aj Ai = some r) ?_ ?_
 · rintro a Cg ⟨Aj,Al,Ao,Ap,Ai,Ak,Am,Ah,k,m,Bz,Bx,h⟩;unfold Qst at h;refine wr (pN 1 k z λa k=>oE h λCo Ba h=>sC k call68 z (Qin fu _ (m.v Bz 2 z) Ba) λCn Cu hR=>?_);obtain ⟨Cm,rfl,e,Bn,Aa⟩:=hR;refine ⟨_,z,λa k=>?_⟩;have m:=m.mut 2 z e _ (λb hb=>⟨Bn b hb,Enc.rd_lt (Enc.ow_rd Aa) b hb⟩) (Enc.ow_nd Aa);refine nn (wr (pN 1 k z λa k=>oE h λCe Bw h=>sC k call68 z (Qin fu _ (m.v Bx 3 z) Bw) λCl Cr hR=>?_));obtain ⟨Cp,rfl,e,Bb,Ab⟩:=hR;refine ⟨_,z,λa k=>?_⟩;have m:=m.mut 3 z e _ (λb hb=>⟨Bb b hb,Enc.rd_lt (Enc.ow_rd Ab) b hb⟩) (Enc.ow_nd Ab);refine nn (wp_seq (Qhe [] Qg5 m z λBf hMd=>?_));have m:=hMd;have s:=Ext.refl ([]:List Nat) Bf
   refine dM [0,3] 2 z k z s λa k=>oE h λBy Ay h=>dT k 1 z z s (λw s=>Qaj (Enc.ow_rd Aa) Ay k Qhz z z z) λa k=>dT k 2 z z s (λw s=>Qaq (Enc.ow_rd Aa) ((hMd.step s).a 2 z) Ay 0 t13 k z z z z) λa k=>oE h λBc Aq h=>dT k 4 z z s (λw s=>Qaj (Enc.ow_rd Ab) Aq k Qhz z z z) λa k=>dT k 5 z z s (λw s=>Qaq (Enc.ow_rd Ab) ((hMd.step s).a 3 z) Aq 0 t13 k z z z z) λa k=>dM [6,7] 2 z k z s λa k=>Qal (decide (By ≤ Bc)) (λAc=>?_) (λAc=>?_)
   · have h:=Qau Ac h;refine rB k 32 z Ac λk=>dM [8,11] 2 z k z s λa k=>oE h λBg Av h=>dT k 9 z z s (λw s=>Qaj (Enc.ow_rd Aa) Av k Qhz z z z) λa k=>dT k 10 z z s (λw s=>Qaq (Enc.ow_rd Aa) ((hMd.step s).a 2 z) Av 0 t13 k z z z z) λa k=>oE h λBh Aw h=>dT k 12 z z s (λw s=>Qaj (Enc.ow_rd Ab) Aw k Qhz z z z) λa k=>dT k 13 z z s (λw s=>Qaq (Enc.ow_rd Ab) ((hMd.step s).a 3 z) Aw 0 t13 k z z z z) λa k=>dM [14,15,16] 3 z k z s λa k=>Qal (decide (Bg ≤ Bh)) (λAe=>?_) (λAe=>?_)
     · have h:=Qau Ae h;refine rB k 41 z Ae λk=>dM [17,20] 2 z k z s λa k=>oE h λBm Au h=>dT k 18 z z s (λw s=>Qaj (Enc.ow_rd Aa) Au k Qhz z z z) λa k=>dT k 19 z z s (λw s=>Qaq (Enc.ow_rd Aa) ((hMd.step s).a 2 z) Au 0 t13 k z z z z) λa k=>oE h λBs As h=>dT k 21 z z s (λw s=>Qaj (Enc.ow_rd Ab) As k Qhz z z z) λa k=>dT k 22 z z s (λw s=>Qaq (Enc.ow_rd Ab) ((hMd.step s).a 3 z) As 0 t13 k z z z z) λa k=>dM [23,24,25] 3 z k z s λa k=>Qal (decide (Bm ≤ Bs)) (λAd=>?_) (λAd=>?_)
       · have h:=Qau Ad h;refine rB k 50 z Ad λk=>dF k 26 Qxt z s λa k=>dT k 27 z z s (λw s=>Qam t13 (r:=[]) (Af.at ((hMd.step s).a 0 z) 4 1 z z z) k z z) λa k=>dF k 28 Qvi z s λa k=>dT k 29 z z s (λw s=>Qam t13 (r:=[]) (Ag.at ((hMd.step s).a 1 z) 5 1 z z z) k z z) λa k=>dM [30,31,32] 3 z k z s λa k=>dD ?_;have k:=k.keep [4] z;refine (Qaa ?_);refine wp_ret (fS h k m z z)
       have h:=Qat Ad h;refine rB k 50 z Ad λk=>dM [26,27,28,29,30,31,32] 7 z k z s λa k=>dD ?_;have k:=k.keep [4] z;refine (Qaa ?_);refine wp_ret (fS h k m z z)
     have h:=Qat Ae h;refine rB k 41 z Ae λk=>dM [17,18,19,20,21,22,23,24,25,26,27,28,29,30,31,32] 16 z k z s λa k=>dD ?_;have k:=k.keep [4] z;refine (Qaa ?_);refine wp_ret (fS h k m z z)
   have h:=Qat Ac h;refine rB k 32 z Ac λk=>dM [8,9,10,11,12,13,14,15,16,17,18,19,20,21,22,23,24,25,26,27,28,29,30,31,32] 25 z k z s λa k=>dD ?_;have k:=k.keep [4] z;refine (Qaa ?_);refine wp_ret (fS h k m z z)
 refine Qhe [] Qg5 m z λBk hMd=>?_;have m:=hMd;have s:=Ext.refl ([]:List Nat) Bk;refine dF k 0 Qzv z s λa k=>dT k 1 z z s (λw s=>Qam t13 (r:=[]) (Af.at ((hMd.step s).a 1 z) 1 1 z z z) k z z) λa k=>dF k 2 Qzn z s λa k=>dT k 3 z z s (λw s=>Qam t13 (r:=[]) (Af.at ((hMd.step s).a 1 z) 2 1 z z z) k z z) λa k=>dF k 4 Qxq z s λa k=>dT k 5 z z s (λw s=>Qam t13 (r:=[]) (Af.at ((hMd.step s).a 1 z) 3 1 z z z) k z z) λa k=>?_;refine dF k 7 Quy z s λa k=>dT k 8 z z s (λw s=>Qam t13 (r:=[]) (Ag.at ((hMd.step s).a 0 z) 1 1 z z z) k z z) λa k=>dF k 9 Que z s λa k=>dT k 10 z z s (λw s=>Qam t13 (r:=[]) (Ag.at ((hMd.step s).a 0 z) 2 1 z z z) k z z) λa k=>dF k 11 Qus z s λa k=>dT k 12 z z s (λw s=>Qam t13 (r:=[]) (Ag.at ((hMd.step s).a 0 z) 3 1 z z z) k z z) λa k=>Qht 6 13 (by kernel_rfl) z z ?_ ?_
 · refine Qcp (cs:=[I x1.fW,I x1.fH,I x1.fD]) (ps:=[(0,.tmp 8),(1,.tmp 10),(2,.tmp 12)]) Qb7 m k z z z z z z z (by decide) z (by exact fC z (fC z (fC z fN))) λAr Ca Cf a k m e Cd Cb=>?_;have Cq:=lo1 (Nat.le_trans s.size Cb);have Be:=Qa2 Cd ([x1.fW,x1.fH,x1.fD]:List Int) z z z;refine ns s e λs=>?_;refine dM [14] 1 z k z s λa k=>dO 13 z (Qcp (cs:=[I t2.fW,I t2.fH,I t2.fD]) (ps:=[(0,.tmp 15),(1,.tmp 17),(2,.tmp 19)]) Qb7 m k z z z z z z z (by decide) z (by exact fC z (fC z (fC z fN))) λAz Bi Ck a k m e Bu Bd=>?_);have Ci:=lo1 (Nat.le_trans s.size Bd);have Bt:=Qa2 Bu ([t2.fW,t2.fH,t2.fD]:List Int) z z z;refine ns s e λs=>?_;refine dM [15] 1 z k z s λa k=>dD ((Qaa ?_));exact ⟨([x1.fW,x1.fH,x1.fD]:List Int),(.slice (some ⟨Ar,0,none⟩) 3 3),[Ar],Ca,([t2.fW,t2.fH,t2.fD]:List Int),(.slice (some ⟨Az,0,none⟩) 3 3),[Az],Bi,k.keep [2,3,5,6] z,m.sl [3,2,1,0] z,Be,Bt,h⟩
 refine Qcp (cs:=[I t2.fW,I t2.fH,I t2.fD]) (ps:=[(0,.tmp 15),(1,.tmp 17),(2,.tmp 19)]) Qb7 m k z z z z z z z (by decide) z (by exact fC z (fC z (fC z fN))) λAt Bp Ct a k m e Bo Bq=>?_;have Cj:=lo1 (Nat.le_trans s.size Bq);have Bj:=Qa2 Bo ([t2.fW,t2.fH,t2.fD]:List Int) z z z;refine ns s e λs=>?_;refine dO 6 z (Qcp (cs:=[I x1.fW,I x1.fH,I x1.fD]) (ps:=[(0,.tmp 8),(1,.tmp 10),(2,.tmp 12)]) Qb7 m k z z z z z z z (by decide) z (by exact fC z (fC z (fC z fN))) λAx Cc Ch a k m e Bv Br=>?_);have Cs:=lo1 (Nat.le_trans s.size Br);have Bl:=Qa2 Bv ([x1.fW,x1.fH,x1.fD]:List Int) z z z;refine ns s e λs=>?_;refine dM [14,15] 2 z k z s λa k=>dD ((Qaa ?_));exact ⟨([x1.fW,x1.fH,x1.fD]:List Int),(.slice (some ⟨Ax,0,none⟩) 3 3),[Ax],Cc,([t2.fW,t2.fH,t2.fD]:List Int),(.slice (some ⟨At,0,none⟩) 3 3),[At],Bp,k.keep [2,3,5,6] z,m.sl [3,2,0,1] z,Bl,Bj,h⟩
theorem Q0b (fu:Nat) {w0:World} (x1:Item) (x2:Typ) {b3:Nat} (Aa:bx w0 b3 [I x2.f8,I x2.fW,I x2.fH,I x2.fD,I x2.f7,I x2.fV,I x2.fK] 65) {r:Bool}
    (h:Qp2 fu x1 x2 = some r) :
    Calls Tryz.prog 39 #[.agg (Flat.e (x1)).toArray,pt b3] w0 λe w=>e = .returned (.bool (r)) ∧ Ext [] w0 w:=by
 refine en (vs:=[_,_]) func39 z ntmps39 z λa k m=>?_;unfold Qp2 at h;refine wr (Qa1 (cs:=[I x1.f8,I x1.fW,I x1.fH,I x1.fD,I x1.fV,I x1.fF,I x1.f0]) m k z z z z z z λb5 w7 a k m e Ac=>pN 1 k z λa k=>nn (wr (sv k z (rL Q1n m 0 Ac 0 k z) λa k=>sv k z (Qbw Qtx (Aa.at (m.a00 Aa.lt1) 0 7 z z z) z k z z) λa k=>oE h λx8 Ab h=>cC k m call40 z (Qzf fu (x1:Item) (x2:Typ)  Ab) λAd e a k m=>pN 2 k z λa k=>nn (wp_ret (fS h k m z z)))))
theorem Q0o (fu:Nat) {w0:World} (t1:Typ) (x2:Pallet) {b3:Nat} (Aa:bx w0 b3 [I x2.fW,I x2.fD,I x2.fH,I x2.fV] 25) {r:Bool}
    (h:Qps fu t1 x2 = some r) :
    Calls Tryz.prog 42 #[.agg (Flat.e (t1)).toArray,pt b3] w0 λe w=>e = .returned (.bool (r)) ∧ Ext [] w0 w:=by
 refine en (vs:=[_,_]) func42 z ntmps42 z λa k m=>?_;unfold Qps at h;refine wr (Qa1 (cs:=[I t1.f8,I t1.fW,I t1.fH,I t1.fD,I t1.f7,I t1.fV,I t1.fK]) m k z z z z z z λb5 w7 a k m e Ad=>pN 1 k z λa k=>nn (wr (fl Quy t13 m 0 Ad k z z λa k=>sv k z (Qh5 Qv6 k z z) λa k=>sv k z (Qam t13 (r:=[]) (Aa.at (m.a00 Aa.lt1) 0 1 z z z) k z z) λa k=>pN 2 k z λa k=>Qal (decide (t1.fW > x2.fW)) (λAc=>?_) (λAc=>?_))))
 · have h:=Qau Ac h;refine rB k 9 z Ac λk=>pN 24 k z λa k=>?_;have k:=k.keep [3] z;refine nn (wp_ret (fS h k m z z))
 have h:=Qat Ac h;refine rB k 9 z Ac λk=>fl Qus t13 m 0 Ad k z z λa k=>sv k z (Qh5 Qv2 k z z) λa k=>sv k z (Qam t13 (r:=[]) (Aa.at (m.a00 Aa.lt1) 1 1 z z z) k z z) λa k=>pN 3 k z λa k=>Qal (decide (t1.fD > x2.fD)) (λAe=>?_) (λAe=>?_)
 · have h:=Qau Ae h;refine rB k 16 z Ae λk=>pN 17 k z λa k=>?_;have k:=k.keep [3] z;refine nn (wp_ret (fS h k m z z))
 have h:=Qat Ae h;refine rB k 16 z Ae λk=>fl Que t13 m 0 Ad k z z λa k=>sv k z (Qh5 Qv0 k z z) λa k=>sv k z (Qam t13 (r:=[]) (Aa.at (m.a00 Aa.lt1) 2 1 z z z) k z z) λa k=>pN 3 k z λa k=>Qal (decide (t1.fH > x2.fH)) (λAb=>?_) (λAb=>?_)
 · have h:=Qau Ab h;refine rB k 23 z Ab λk=>pN 10 k z λa k=>?_;have k:=k.keep [3] z;refine nn (wp_ret (fS h k m z z))
 have h:=Qat Ab h;refine rB k 23 z Ab λk=>fl Q1j t13 m 0 Ad k z z λa k=>fl Qvi t13 m 0 Ad k z z λa k=>pN 1 k z λa k=>sv k z (Qh5 Qub k z z) λa k=>sv k z (Qam t13 (r:=[]) (Aa.at (m.a00 Aa.lt1) 3 1 z z z) k z z) λa k=>pN 3 k z λa k=>?_;have k:=k.keep [3] z;refine nn (wp_ret (fS h k m z z))
theorem Q3k (fu:Nat) {w0:World} (r1:Request) {Af:List Value} {F3:List Nat} (Ar:rd w0 F3 Af r1) {r:Int}
    (h:Qsx fu r1 = some r) :
    Calls Tryz.prog 14 #[.agg Af.toArray] w0 λe w=>e = .returned (I r) ∧ Ext [] w0 w:=by
 refine en (vs:=[_]) func14 z ntmps14 z λa k m=>?_;obtain ⟨v5,F6,v7,F8,v9,Bc,rfl,rfl,Aa,Ab,Ad⟩:=Ar;unfold Qsx at h;refine wr (Qa1 (cs:=(cR r1 v5 v7 v9)) m k z z z z z z λBo Bj a k m e Ac=>pN 1 k z λa k=>nn (wr (sv k z (rL Qeb m 0 Ac 0 k z) λa k=>oE h λAe Az h=>cC k m call34 z (Quh fu _ (Qah (m.r Aa) (m.r Ab) (m.r Ad)) Az) λBi e a k m=>?_)));refine pN 3 k z λa k=>Qan (cs:=[I 0,I 0,I 0,I 0,I 0,I 0,I 0]) m k zeroValue65 z z z z z λAg Bk a k m e Al=>sT (cs':=[I Ae.1.f8,I Ae.1.fW,I Ae.1.fH,I Ae.1.fD,I Ae.1.f7,I Ae.1.fV,I Ae.1.fK]) sizeOf65 m 0 Al 0 k z z λBu a k e m Ak=>pN 1 k z λa k=>nn (wr (sv k z (Qh5 Qti k z z) λa k=>sv k z (rL Q28 m 1 Ac 1 k z) λa k=>Qan (cs:=[I 0,I 0,I 0,I 0]) m k zeroValue25 z z z z z λAv Bs a k m e Ay=>?_))
 refine sT (cs':=[I r1.fJ.fW,I r1.fJ.fD,I r1.fJ.fH,I r1.fJ.fV]) sizeOf25 m 0 Ay 0 k z z λBm a k e m Ah=>nn (wp_seq (wp_block (wr (sv k z (rL Qeb m 2 Ac 0 k z) λa k=>oE h λBp As h=>cC k m call35 z (Qzt fu _ (Qah (m.r Aa) (m.r Ab) (m.r Ad)) As) λBt e a k m=>pN 2 k z λa k=>nn ?_))));refine cI h k z (λAj h=>?_) λAj h=>?_
 · refine wr (pN 1 k z λa k=>nn (wp_ret (Qaf (Qad ?_))));refine fS h k m z z
 refine wr (sv k z (rL Qeb m 2 Ac 0 k z) λa k=>oE h λBf Ap h=>cC k m call36 z (Q0k fu _ (Qah (m.r Aa) (m.r Ab) (m.r Ad)) Ap) λBe e a k m=>pN 2 k z λa k=>nn (cI h k z (λAo h=>?_) λAo h=>?_))
 · refine wr (pN 1 k z λa k=>nn (wp_ret (Qaf (Qad ?_))));refine fS h k m z z
 refine wr (fl Qol Q07 m 2 Ac k z z λa k=>fl Qt1 t13 m 2 Ac k z z λa k=>oE h λBg Am h=>cC k m call37 z (Q00 fu _ _ (m.r Aa) Am) λBr e a k m=>pN 2 k z λa k=>?_);have k:=k.keep [1,3,5,21] z;refine nn (cI h k z (λAw h=>?_) λAw h=>?_)
 · refine wr (pN 1 k z λa k=>nn (wp_ret (Qaf (Qad ?_))));refine fS h k m z z
 refine wr (fl Qg7 Qvo m 2 Ac k z z λa k=>pN 1 k z λa k=>oE h λBw Aq h=>cC k m call38 z (Qce fu _ _ (m.r Ad) ⟨39,[pt Ag],z,call39,λw Bl Bq r e Ax hx=>by subst Ax; have m:=m.step e; exact Q0b fu _ _ (Ak.agr (m.a 1 rfl) (by simp)) hx⟩ Aq) λBd e a k m=>pN 1 k rfl λa k=>nn (cI h k rfl (λAi h=>?_) λAi h=>?_))
 · refine wr (pN 1 k z λa k=>nn (wp_ret (Qaf (Qad ?_))));refine fS h k m z z
 refine wr (fl Qeg t127 m 2 Ac k z z λa k=>pN 1 k z λa k=>oE h λBb Au h=>cC k m call41 z (Qdj fu _ _ (m.r Ab) ⟨42,[pt Av],z,call42,λw Bn Bh r e At hx=>by subst At; have m:=m.step e; exact Q0o fu _ _ (Ah.agr (m.a 0 rfl) (by simp)) hx⟩ Au) λBv e a k m=>pN 1 k rfl λa k=>nn (cI h k rfl (λBa h=>?_) λBa h=>?_))
 · refine wr (pN 1 k z λa k=>nn (wp_ret (Qaf (Qad ?_))));refine fS h k m z z
 refine wp_skip (Qae (Qaa ?_));refine wr (pN 1 k z λa k=>nn (wp_ret (fS h k m z z)))
theorem Qos (fu:Nat) {w0:World} (r1:Request) {Ad:List Value} {F3:List Nat} (Ae:rd w0 F3 Ad r1) {r:Bool}
    (h:Qgw fu r1 = some r) :
    Calls Tryz.prog 48 #[.agg Ad.toArray] w0 λe w=>e = .returned (.bool (r)) ∧ Ext [] w0 w:=by
 refine en (vs:=[_]) func48 z ntmps48 z λa k m=>?_;obtain ⟨v5,F6,v7,F8,v9,Ah,rfl,rfl,Ab,Aa,Ac⟩:=Ae;unfold Qgw at h;refine wr (Qa1 (cs:=(cR r1 v5 v7 v9)) m k z z z z z z λAi Aj a k m e Ag=>pN 1 k z λa k=>nn (wr (sv k z (rL Qeb m 0 Ag 0 k z) λa k=>oE h λAl Af h=>cC k m call14 z (Q3k fu _ (Qah (m.r Ab) (m.r Aa) (m.r Ac)) Af) λAk e a k m=>?_)));refine pN 2 k z λa k=>nn (wp_ret (fS h k m z z))
theorem Qwt (fu:Nat) {w0:World} (Ac:List Int) {v2:Value} {F3:List Nat} (Aa:rd w0 F3 [v2] Ac) {r:Bool}
    (h:Qj8 fu Ac = some r) :
    Calls Tryz.prog 149 #[v2] w0 λe w=>e = .returned (.bool (r)) ∧ Ext [] w0 w:=by
 refine en (vs:=[_]) func149 z ntmps149 z λa k m=>?_;unfold Qj8 at h;refine wr (pN 1 k z λa k=>nn (wp_seq (wr (pN 1 k z λa k=>sv k z (Qav (α:=Int) Aa k underlying49 z z) λa k=>pN 1 k z λa k=>nn (wp_block (Qap (λn a w=>∃ (Ab:Int),K 32 [(0,v2),(5,v2),(6,I (Ac.length:Int)),(7,I Ab)] a ∧ St [] w0 w [] ∧ Qdi fu Ac n Ab = some r) ?_ ?_ fu _ _ ?_))))))
 · rintro a w ⟨_,_,_,h⟩;exact nS h
 · rintro Aj a Ar ⟨Ab,k,m,h⟩;rw [Qdi.eq_2] at h;unfold Qih at h;refine wr (pN 1 k z λa k=>nn (wp_seq (cI h k z (λAl h=>?_) λAl h=>?_)))
   · refine wp_skip (Qaa ?_);refine Qb3 (λa w=>K 32 [(0,v2),(5,v2),(6,I (Ac.length:Int)),(7,I Ab)] a ∧ St [] w0 w [] ∧ Qhf fu (Qdi fu Ac Aj) Ab = some r) ?_ ?_
     · rintro a Ao ⟨k,m,h⟩;unfold Qhf at h;refine wp_region_lit (pN 2 k z λa k=>nn ?_);exact ⟨w64 (Ab + 1),k.keep [0,5,6,7] z,m.sl [] z,h⟩
     refine wp_block (wr (pN 1 k z λa k=>oE h λAq Ag h=>sv k z (Qaj Aa Ag k Qhz z z z) λa k=>sv k z (Qaq Aa (m.a00 (Enc.rd_lt Aa)) Ag 0 t13 k z z z z) λa k=>pN 2 k z λa k=>nn (wr (pN 1 k z λa k=>oE h λAk Ah h=>cC k m call56 z (Qcs fu _ _ _  Ah) λAp e a k m=>pN 2 k z λa k=>Qal (!Ak) (λAe=>?_) (λAe=>?_)))))
     · have h:=Qau Ae h;refine rB k 15 z Ae λk=>pN 12 k z λa k=>nn (wp_cond_true (k.ev z) (wr (pN 1 k z λa k=>nn (wp_ret (Qaf (Qad (Qad (Qaf (Qad ?_)))))))));refine fS h k m z z
     have h:=Qat Ae h;refine rB k 15 z Ae λk=>pN 3 k z λa k=>Qal (decide (Ab > 0)) (λAd=>?_) (λAd=>?_)
     · have h:=Qau Ad h;refine rB k 18 z Ad λk=>pN 3 k z λa k=>oE h λAm Af h=>sv k z (Qaj Aa Af k Qhz z z z) λa k=>sv k z (Qaq Aa (m.a00 (Enc.rd_lt Aa)) Af 0 t13 k z z z z) λa k=>pN 4 k z λa k=>nn (cI h k z (λAi h=>?_) λAi h=>?_)
       · refine wr (pN 1 k z λa k=>nn (wp_ret (Qaf (Qad (Qad (Qaf (Qad ?_)))))));refine fS h k m z z
       refine wp_skip (Qae (Qaa ?_));exact ⟨k.keep [0,5,6,7] z,m.sl [] z,h⟩
     have h:=Qat Ad h;refine rB k 18 z Ad λk=>pN 9 k z λa k=>nn (wp_cond_false (k.ev z) (wp_skip (Qae (Qaa ?_))));exact ⟨k.keep [0,5,6,7] z,m.sl [] z,h⟩
   refine wp_exit (Qag (Qag (Qak (Qaa ?_))));refine wr (pN 1 k z λa k=>sv k z (Qav (α:=Int) Aa k underlying49 z z) λa k=>pN 2 k z λa k=>nn (wp_ret (fS h k m z z)))
 exact ⟨0,k.keep [0,5,6,7] z,m.sl [] z,h⟩
theorem Qdf (fu:Nat) {w0:World} (n1:Int)  {r:Bool}
    (h:Qb8 fu n1 = some r) :
    Calls Tryz.prog 150 #[I n1] w0 λe w=>e = .returned (.bool (r)) ∧ Ext [] w0 w:=by
 refine en (vs:=[_]) func150 z ntmps150 z λa k m=>?_;unfold Qb8 at h;refine wr (pN 1 k z λa k=>nn (wr (pN 1 k z λa k=>oE h λx2 Aa h=>cC k m call56 z (Qcs fu _ _ _  Aa) λw5 e a k m=>pN 1 k z λa k=>nn (wp_ret (fS h k m z z)))))
theorem Q10 (fu:Nat) {w0:World} (x1:Plan) {Au:List Value} {F3:List Nat} (Bk:rd w0 F3 Au x1) {r:Bool}
    (h:Qrz fu x1 = some r) :
    Calls Tryz.prog 64 #[.agg Au.toArray] w0 λe w=>e = .returned (.bool (r)) ∧ Ext [] w0 w:=by
 refine en (vs:=[_]) func64 z ntmps64 z λa k m=>?_;obtain ⟨v5,F6,v7,F8,rfl,rfl,Ac,Al⟩:=Bk;unfold Qrz at h;refine wr (Qa1 (cs:=[v5,v7]) m k z z z z z z λAb Ap a k m e Ai=>pN 1 k z λa k=>nn (Qb3 (λa w=>K 73 [(1,pt Ab)] a ∧ St [] w0 w [([Ab],Ap)] ∧ Qqu fu x1 = some r) ?_ ?_))
 · rintro a Bz ⟨k,m,h⟩;unfold Qqu at h;refine wp_seq (wr (fl Qbl Qmt m 0 Ai k z z λa k=>sv k z (Qav (α:=Carton) Ac k underlying31 z z) λa k=>pN 1 k z λa k=>nn (wp_block (Qap (λn a w=>∃ (Aa:Int),K 73 [(1,pt Ab),(20,v5),(21,I (x1.fQ.length:Int)),(22,I Aa)] a ∧ St [] w0 w [([Ab],Ap)] ∧ Qf8 fu x1 n Aa = some r) ?_ ?_ fu _ _ ?_))))
   · rintro a w ⟨_,_,_,h⟩;exact nS h
   · rintro Be a By ⟨Aa,k,m,h⟩;rw [Qf8.eq_2] at h;unfold Qn4 at h;refine wr (pN 1 k z λa k=>nn (wp_seq (cI h k z (λAx h=>?_) λAx h=>?_)))
     · refine wp_skip (Qaa ?_);refine Qb3 (λa w=>K 73 [(1,pt Ab),(20,v5),(21,I (x1.fQ.length:Int)),(22,I Aa)] a ∧ St [] w0 w [([Ab],Ap)] ∧ Qqw fu (Qf8 fu x1 Be) Aa = some r) ?_ ?_
       · rintro a Cf ⟨k,m,h⟩;unfold Qqw at h;refine wp_region_lit (pN 2 k z λa k=>nn ?_);exact ⟨w64 (Aa + 1),k.keep [1,20,21,22] z,m.sl [0] z,h⟩
       refine wp_block (wr (pN 1 k z λa k=>oE h λAv At h=>sv k z (Qaj Ac At k Qtm z z z) λa k=>?_));obtain ⟨Ci,Bx,Cb,Bj,Br,Bn⟩:=Qbo Ac (Qas At).2.2;obtain ⟨Bi,_,rfl,rfl,Ar⟩:=Bj;refine sv k z (Qbw Qxa (Br.agr (m.a00 (Enc.rd_lt Ac)) Bn) z k z z) λa k=>Qan (cs:=[I 0,I 0,.slice none 0 0]) m k zeroValue53 z z z z z λCe Ca a k m e Bt=>pN 1 k z λa k=>sT (cs':=[I Av.fO,I Av.fE,Bi]) sizeOf53 m 0 Bt 0 k z (Qa9 z (Qa9 z (Qa9 (Qc7 Ar) Qqo))) λCc a k e m Aq=>nn (wr (fl Qcf Qsg m 1 Ai k z z λa k=>pN 1 k z λa k=>oE h λAm As h=>sv k z (Qaj Al As k Quc z z z) λa k=>sv k z (Qg6 Al (m.a00 (Enc.rd_lt Al)) As Qvz k z z) λa k=>?_));refine Qan (cs:=[I 0,I 0,I 0,I 0]) m k zeroValue41 z z z z z λBv Cm a k m e Az=>sT (cs':=[I Am.fJ,I Am.fX,I Am.fY,I Am.fZ]) sizeOf41 m 0 Az 0 k z z λCl a k e m Ao=>nn (wr (fl Qts t13 m 1 Aq k z z λa k=>oE h λBa Ay h=>cC k m call56 z (Qcs fu _ _ _  Ay) λBu e a k m=>pN 2 k z λa k=>Qal (!Ba) (λAj=>?_) (λAj=>?_)))
       · have h:=Qau Aj h;refine rB k 36 z Aj λk=>pN 35 k z λa k=>?_;have k:=k.keep [1,20,21,22,71] z;refine nn (wp_cond_true (k.ev z) (wr (pN 1 k z λa k=>nn (wp_ret (Qaf (Qad (Qad (Qaf (Qad ?_)))))))));refine fS h k m z z
       have h:=Qat Aj h;refine rB k 36 z Aj λk=>fl Qtt t13 m 1 Aq k z z λa k=>oE h λBs Bd h=>cC k m call56 z (Qcs fu _ _ _  Bd) λCn e a k m=>pN 3 k z λa k=>Qal (!Bs) (λAf=>?_) (λAf=>?_)
       · have h:=Qau Af h;refine rB k 42 z Af λk=>pN 29 k z λa k=>?_;have k:=k.keep [1,20,21,22,71] z;refine nn (wp_cond_true (k.ev z) (wr (pN 1 k z λa k=>nn (wp_ret (Qaf (Qad (Qad (Qaf (Qad ?_)))))))));refine fS h k m z z
       have h:=Qat Af h;refine rB k 42 z Af λk=>fl Qiq Qsf m 1 Aq k z z λa k=>oE h λBp Bq h=>cC k m call149 z (Qwt fu _ (m.r Ar) Bq) λCg e a k m=>pN 3 k z λa k=>Qal (!Bp) (λAd=>?_) (λAd=>?_)
       · have h:=Qau Ad h;refine rB k 48 z Ad λk=>pN 23 k z λa k=>?_;have k:=k.keep [1,20,21,22,71] z;refine nn (wp_cond_true (k.ev z) (wr (pN 1 k z λa k=>nn (wp_ret (Qaf (Qad (Qad (Qaf (Qad ?_)))))))));refine fS h k m z z
       have h:=Qat Ad h;refine rB k 48 z Ad λk=>fl Qsv t13 m 0 Ao k z z λa k=>oE h λBc Aw h=>cC k m call150 z (Qdf fu _  Aw) λBw e a k m=>pN 3 k z λa k=>Qal (!Bc) (λAe=>?_) (λAe=>?_)
       · have h:=Qau Ae h;refine rB k 54 z Ae λk=>pN 17 k z λa k=>?_;have k:=k.keep [1,20,21,22,71] z;refine nn (wp_cond_true (k.ev z) (wr (pN 1 k z λa k=>nn (wp_ret (Qaf (Qad (Qad (Qaf (Qad ?_)))))))));refine fS h k m z z
       have h:=Qat Ae h;refine rB k 54 z Ae λk=>fl Qte t13 m 0 Ao k z z λa k=>oE h λBo Bm h=>cC k m call150 z (Qdf fu _  Bm) λCj e a k m=>pN 3 k z λa k=>Qal (!Bo) (λAk=>?_) (λAk=>?_)
       · have h:=Qau Ak h;refine rB k 60 z Ak λk=>pN 11 k z λa k=>?_;have k:=k.keep [1,20,21,22,71] z;refine nn (wp_cond_true (k.ev z) (wr (pN 1 k z λa k=>nn (wp_ret (Qaf (Qad (Qad (Qaf (Qad ?_)))))))));refine fS h k m z z
       have h:=Qat Ak h;refine rB k 60 z Ak λk=>fl Qum t13 m 0 Ao k z z λa k=>oE h λBf Bg h=>cC k m call150 z (Qdf fu _  Bg) λCd e a k m=>pN 3 k z λa k=>Qal (!Bf) (λAg=>?_) (λAg=>?_)
       · have h:=Qau Ag h;refine rB k 66 z Ag λk=>pN 5 k z λa k=>?_;have k:=k.keep [1,20,21,22,71] z;refine nn (wp_cond_true (k.ev z) (wr (pN 1 k z λa k=>nn (wp_ret (Qaf (Qad (Qad (Qaf (Qad ?_)))))))));refine fS h k m z z
       have h:=Qat Ag h;refine rB k 66 z Ag λk=>fl Qox t13 m 0 Ao k z z λa k=>oE h λCh Bh h=>cC k m call150 z (Qdf fu _  Bh) λCk e a k m=>pN 2 k z λa k=>?_;have k:=k.keep [1,20,21,22,71] z;refine nn (cI h k z (λBl h=>?_) λBl h=>?_)
       · refine wr (pN 1 k z λa k=>nn (wp_ret (Qaf (Qad (Qad (Qaf (Qad ?_)))))));refine fS h k m z z
       refine wp_skip (Qae (Qaa ?_));exact ⟨k.keep [1,20,21,22] z,m.sl [2] z,h⟩
     refine wp_exit (Qag (Qag (Qak (Qaa ?_))));refine wr (pN 1 k z λa k=>nn (wp_ret (fS h k m z z)))
   exact ⟨0,k.keep [1,20,21,22] z,m.sl [0] z,h⟩
 refine wr (fl Qcf Qsg m 0 Ai k z z λa k=>sv k z (Qav (α:=Spot) Al k underlying32 z z) λa k=>fl Qbl Qmt m 0 Ai k z z λa k=>sv k z (Qav (α:=Carton) Ac k underlying31 z z) λa k=>pN 2 k z λa k=>Qal ((x1.fU.length:Int) != (x1.fQ.length:Int)) (λAh=>?_) (λAh=>?_))
 · have h:=Qau Ah h;refine rB k 13 z Ah λk=>pN 5 k z λa k=>nn (wp_cond_true (k.ev z) (wr (pN 1 k z λa k=>nn (wp_ret (Qad ?_)))));refine fS h k m z z
 have h:=Qat Ah h;refine rB k 13 z Ah λk=>fl Qbl Qmt m 0 Ai k z z λa k=>sv k z (Qav (α:=Carton) Ac k underlying31 z z) λa k=>pN 2 k z λa k=>nn (cI h k z (λBb h=>?_) λBb h=>?_)
 · refine wr (pN 1 k z λa k=>nn (wp_ret (Qad ?_)));refine fS h k m z z
 refine wp_skip (Qaa ?_);exact ⟨k.keep [1] z,m.sl [0] z,h⟩
end Go.Proofs.YtpcmapfabndggaaGreat
