/- FnDropped: the walks.. -/
import Derived.Test.YtpcmapfabndggaaGreatDroppedBT
set_option maxRecDepth 20000
set_option linter.unusedSimpArgs false
set_option linter.unusedVariables false
set_option linter.unnecessarySimpa false
namespace Go.Proofs.YtpcmapfabndggaaGreat
open Go Go.RowKit
open Enc (rd ow)
open Arg (argv)
open Ret (retv)
open Go.Proofs.Tryz
theorem Qm7 (fu:Nat) {w0:World} (Ac:List Int) {v2:Value} {F3:List Nat} (Aa:rd w0 F3 [v2] Ac) {r:(List Int)}
    (h:Qct fu Ac = some r) :
    Calls Tryz.prog 162 #[v2] w0 λe w=>∃ (v0:Value) (G0:List Nat),e = .returned (v0) ∧ Ext [] w0 w ∧ ow w G0 [v0] r ∧ (∀ b ∈ G0,w0.heap.size ≤ b):=by
 refine en (vs:=[_]) func162 z ntmps162 z λa k m=>?_;unfold Qct at h;refine wr (pN 1 k z λa k=>nn (wp_seq (wr (pN 1 k z λa k=>?_))));obtain ⟨Ae,Aj,Al⟩:=Jcs Aa;refine sv k z (Al k underlying49 z z z) λa k=>nn (Q98 (b:=Ae) k z (λAb=>?_) (λAb=>?_))
 · have Af:=Aj Ab;rw [Af] at h;have h:some (([]:List Int)) = some r:=h;refine wr (pN 1 k z λa k=>nn (wp_ret (Qad ?_)));cases h;exact Qch k z (RV.tmp k z) ⟨_,[],z,m.ext,(Qii _),(by simp)⟩
 refine wp_skip (Qaa ?_);refine wr (sB (cs:=[]) (ps:=[]) Qb8 m k z (by exact fN) λAp Ao As a k m e Ah=>?_);have Ak:=Qa2 Ah ([]:List Int) z z z;refine pN 1 k z λa k=>oE h λAq Ad h=>Qfi Ad Qb8 z m 0 Ak (News.rd (m.r Aa)) z z k z z z z z z z λAr Ai Am a k e m Ag=>pN 1 k z λa k=>nn (wp_ret ?_);cases h;exact Qch k z (RV.tmp k z) ⟨_,Ai,z,m.ext,(m.v Ag 0 z),(m.fresh 0 z)⟩
theorem Qvm (fu:Nat) {w0:World} (Af:List Carton) {v2:Value} {F3:List Nat} (Ae:rd w0 F3 [v2] Af) {r:(List Carton)}
    (h:Qh8 fu Af = some r) :
    Calls Tryz.prog 77 #[v2] w0 λe w=>∃ (v0:Value) (G0:List Nat),e = .returned (v0) ∧ Ext [] w0 w ∧ ow w G0 [v0] r ∧ (∀ b ∈ G0,w0.heap.size ≤ b):=by
 refine en (vs:=[_]) func77 z ntmps77 z λa k m=>?_;unfold Qh8 at h;refine wr (pN 1 k z λa k=>nn (wr (sB (cs:=[]) (ps:=[]) Qz4 m k z (by exact fN) λg5 w6 e8 a k m e Au=>?_)));have As:=Qui (α:=Carton) Au;refine pN 1 k z λa k=>nn (wp_seq (wr (pN 1 k z λa k=>sv k z (Qav (α:=Carton) Ae k underlying31 z z) λa k=>pN 1 k z λa k=>nn (wp_block (Qap (λn a w=>∃ (Ag:List Carton) (Al:Value) (Ac:List Nat) (Ak:World) (Ad:Int),K 23 [(3,Al),(7,v2),(8,I (Af.length:Int)),(9,I Ad)] a ∧ St [] w0 w [(Ac,Ak)] ∧ ow Ak Ac [Al] Ag ∧ Qdk fu Af n Ag Ad = some r) ?_ ?_ fu _ _ ?_)))))
 · rintro a w ⟨_,_,_,_,_,_,_,_,h⟩;exact nS h
 · rintro Bp a Br ⟨Ag,Al,Ac,Ak,Ad,k,m,Am,h⟩;rw [Qdk.eq_2] at h;unfold Qg7 at h;refine wr (pN 1 k z λa k=>nn (wp_seq (cI h k z (λBl h=>?_) λBl h=>?_)))
   · refine wp_skip (Qaa ?_);refine wp_seq (wp_block (wr (oE h λAa Ap h=>sv k z (Qaj Ae Ap k Qte z z z) λa k=>?_)));obtain ⟨Bm,Bx,Bq,Ay,Az,Bj⟩:=Qbo Ae (Qat Ap).2.2;obtain ⟨Bf,_,rfl,rfl,Ai⟩:=Ay;refine sv k z (Qbw Qw6 (Az.agr (m.a00 (Enc.rd_lt Ae)) Bj) z k z z) λa k=>Qan (cs:=[I 0,I 0,.slice none 0 0]) m k zeroValue53 z z z z z λBw Bv a k m e Be=>sT (cs':=[I Aa.fO,I Aa.fE,Bf]) sizeOf53 m 0 Be 0 k z (Qa9 z (Qa9 z (Qa9 (Qc7 Ai) Qqs))) λBs a k e m Ao=>nn (wr (fl Qix Qsh m 0 Ao k z z λa k=>oE h λBk At h=>sC k call162 z (Qm7 fu _ (m.r Ai) At) λBy Bo hR=>?_));obtain ⟨Aj,Ah,rfl,e,Ab,Bh⟩:=hR;refine ⟨_,z,λa k=>?_⟩;have m:=m.nw e Bh Ab
     refine sv k z (Qh6 Qix k z z) λa k=>Qf7 (cs':=[I Aa.fO,I Aa.fE,Aj]) sizeOf49 m 1 Ao 2 k (Qoy (Enc.ow_rd Ab)) (Qc7 (Enc.ow_rd Ab)) z z z z z z z z z λBz a k e m Bd=>nn (wp_region_lit (pN 1 k z λa k=>sv k z (rL Qw6 m 1 Bd 0 k z) λa k=>sB (cs:=[I Aa.fO,I Aa.fE,Aj]) (ps:=[(0,.tmp 18)]) Qz4 m k z (by exact fC z fN) λBn Bt Bu a k m e Aw=>oE h λBb Bc h=>?_));have Ba:ow _ (Ah) [I Aa.fO,I Aa.fE,Aj] ((⟨Aa.fO,Aa.fE,Bk⟩:Carton):Carton):=⟨_,_,z,z,(m.v Ab 1 z),by simpa [fps] using (m.sl [1] z).nd⟩
     have Bg:=News.box Aw (m.a 0 z) (by simp) (m:=1);have Aq:=m.a 3 z;have m:=m.sl [3,1,0,2] z;have m:=m.join2;refine Qnt (F:=Ac) (G:=(Ah)) Bc Qz4 z m Am Aq Bg Ba (Agr.refl _ _) k z z z z z z λAx Bi Ar a k e m Av=>pN 1 k z λa k=>wpList_nil (Qae (Qaa ?_));refine wp_region_lit (pN 2 k z λa k=>nn ?_);exact ⟨Bb,Ax,Bi,Ar,w64 (Ad + 1),k.keep [3,7,8,9] z,m.sl [0] z,Av,h⟩
   refine wp_exit (Qag (Qag (Qak (Qaa ?_))));refine wr (pN 2 k z λa k=>nn (wp_ret ?_));cases h;exact Qch k z (RV.tmp k z) ⟨_,Ac,z,m.ext,(m.v Am 0 z),(m.fresh 0 z)⟩
 exact ⟨([]:List Carton),(.slice (some ⟨g5,0,none⟩) 0 0),[g5],w6,0,k.keep [3,7,8,9] z,m.sl [0] z,As,h⟩
theorem Qq9 (fu:Nat) {w0:World} (Ac:List Spot) {v2:Value} {F3:List Nat} (Aa:rd w0 F3 [v2] Ac) {r:(List Spot)}
    (h:Qc9 fu Ac = some r) :
    Calls Tryz.prog 78 #[v2] w0 λe w=>∃ (v0:Value) (G0:List Nat),e = .returned (v0) ∧ Ext [] w0 w ∧ ow w G0 [v0] r ∧ (∀ b ∈ G0,w0.heap.size ≤ b):=by
 refine en (vs:=[_]) func78 z ntmps78 z λa k m=>?_;unfold Qc9 at h;refine wr (pN 1 k z λa k=>nn (wp_seq (wr (pN 1 k z λa k=>?_))));obtain ⟨Ae,Aj,Al⟩:=Jcs Aa;refine sv k z (Al k underlying32 z z z) λa k=>nn (Q98 (b:=Ae) k z (λAb=>?_) (λAb=>?_))
 · have Af:=Aj Ab;rw [Af] at h;have h:some (([]:List Spot)) = some r:=h;refine wr (pN 1 k z λa k=>nn (wp_ret (Qad ?_)));cases h;exact Qch k z (RV.tmp k z) ⟨_,[],z,m.ext,(Qii _),(by simp)⟩
 refine wp_skip (Qaa ?_);refine wr (sB (cs:=[]) (ps:=[]) Q29 m k z (by exact fN) λAp Ao As a k m e Ah=>?_);have Ak:=Qa2 Ah ([]:List Spot) z z z;refine pN 1 k z λa k=>oE h λAq Ad h=>Qfi Ad Q29 z m 0 Ak (News.rd (m.r Aa)) z z k z z z z z z z λAr Ai Am a k e m Ag=>pN 1 k z λa k=>nn (wp_ret ?_);cases h;exact Qch k z (RV.tmp k z) ⟨_,Ai,z,m.ext,(m.v Ag 0 z),(m.fresh 0 z)⟩
theorem Qx5 (fu:Nat) {w0:World} (x1:Plan) {Ak:List Value} {F3:List Nat} (As:rd w0 F3 Ak x1) {r:Plan}
    (h:Qms fu x1 = some r) :
    Calls Tryz.prog 25 #[.agg Ak.toArray] w0 λe w=>∃ (Al:List Value) (G0:List Nat),e = .returned (.agg Al.toArray) ∧ Ext [] w0 w ∧ ow w G0 Al r ∧ (∀ b ∈ G0,w0.heap.size ≤ b):=by
 refine en (vs:=[_]) func25 z ntmps25 z λa k m=>?_;obtain ⟨v5,F6,v7,F8,rfl,rfl,Ao,Ae⟩:=As;unfold Qms at h;refine wr (Qa1 (cs:=[v5,v7]) m k z z z z z z λBf Bg a k m e Af=>Qan (cs:=[.slice none 0 0,.slice none 0 0]) m k zeroValue34 z z z z z λAm Bb a k m e Aq=>nn (wp_seq (Qhe ([Am]) Qg5 m z λAp hMd=>?_)));have m:=hMd;have s:=Ext.refl (([Am]):List Nat) Ap;refine dF k 0 Qbl z s λa k=>dT k 1 z z s (λw s=>Qam Qmt (r:=[]) (Af.at (hMd.az 1 0 z z z s) 0 1 z z z) k z z) λa k=>dF k 3 Qcf z s λa k=>dT k 4 z z s (λw s=>Qam Qsm (r:=[]) (Af.at (hMd.az 1 0 z z z s) 1 1 z z z) k z z) λa k=>dO 2 z (oE h λBd At h=>sC k call77 z (Qvm fu _ (m.r Ao) At) λAv Ay hR=>?_);obtain ⟨Ah,Ad,rfl,e,Ab,Ai⟩:=hR;refine ⟨_,z,λa k=>?_⟩;have m:=m.nw e Ai Ab;have Bc:=λ(y:Nat) (hy:y ∈ Ad)=>Nat.le_trans s.size (Ai y hy);refine ns s e λs=>?_;refine dO 5 z (oE h λBa Au h=>sC k call78 z (Qq9 fu _ (m.r Ae) Au) λBe Aw hR=>?_);obtain ⟨Ag,Ac,rfl,e,Aa,Aj⟩:=hR;refine ⟨_,z,λa k=>?_⟩;have m:=m.nw e Aj Aa
 have Az:=λ(y:Nat) (hy:y ∈ Ac)=>Nat.le_trans s.size (Aj y hy);refine ns s e λs=>?_;refine dT k 6 z z s (λw s=>Qba Jhr k (cs:=#[Ah,Ag]) (ps:=[(0,.tmp 5),(1,.tmp 8)]) z z (Qhg z (Qoy (Enc.ow_rd Ab)) z (Qhg z (Qoy (Enc.ow_rd Aa)) z z))) λa k=>dO 7 z (sT (cs':=[Ah,Ag]) sizeOf34 m 2 Aq 0 k z (Qa9 (Qc7 (Enc.ow_rd Ab)) (Qa9 (Qc7 (Enc.ow_rd Aa)) Qqs)) λAx a k e m Ar=>?_);have s:=s.trans e (λy hy=>Or.inl hy);refine wpList_nil ⟨s,?_⟩;refine dD ((Qaa ?_));refine wp_ret ?_;cases h;exact Qch k z (RV.cA k z Qrb (Ar.at (m.a 2 z) 0 2 z z z) z) ⟨_,_,z,m.ext,⟨_,Ad,_,Ac,z,z,(m.v Ab 1 z),(m.v Aa 0 z),by simpa [fps] using (m.sl [1,0] z).nd⟩,(Qb6 (m.fresh 1 z) (m.fresh 0 z))⟩
theorem Qw0 (fu:Nat) {w0:World} (t1:Typ) (x2:Int) {b3:Nat} (Aa:bx w0 b3 [I x2] 3) {r:Bool}
    (h:Qo5 fu t1 x2 = some r) :
    Calls Tryz.prog 163 #[.agg (Flat.e (t1)).toArray,pt b3] w0 λe w=>e = .returned (.bool (r)) ∧ Ext [] w0 w:=by
 refine en (vs:=[_,_]) func163 z ntmps163 z λa k m=>?_;unfold Qo5 at h;refine wr (Qa1 (cs:=[I t1.f8,I t1.fW,I t1.fH,I t1.fD,I t1.f7,I t1.fV,I t1.fK]) m k z z z z z z λb5 w7 a k m e Ab=>pN 1 k z λa k=>nn (wr (fl Qs6 t13 m 0 Ab k z z λa k=>sv k z (Qam t13 (r:=[]) (Aa.at (m.a00 Aa.lt1) 0 1 z z z) k z z) λa k=>pN 2 k z λa k=>nn (wp_ret (fS h k m z z)))))
theorem Qg9 (fu:Nat) {w0:World} (Ab:List Typ) (f5:Typ → Option Bool) {v2:Value} {F3:List Nat} (Ac:rd w0 F3 [v2] Ab) {v6:Value} (Al:Qzq Tryz.prog w0 v6 f5) {r:Int}
    (h:Qbg fu Ab f5 = some r) :
    Calls Tryz.prog 108 #[v2,v6] w0 λe w=>e = .returned (I r) ∧ Ext [] w0 w:=by
 refine en (vs:=[_,_]) func108 z ntmps108 z λa k m=>?_;obtain ⟨Af,Ai,rfl,Ag,Ah⟩:=Al;unfold Qbg at h;refine wr (pN 1 k z λa k=>nn (wp_seq (wr (pN 1 k z λa k=>sv k z (Qav (α:=Typ) Ac k underlying27 z z) λa k=>pN 1 k z λa k=>nn (wp_block (Qap (λn a w=>∃ (Aa:Int),K 19 [(0,v2),(1,(.func (.func Af) #[] Ai.toArray)),(7,I (Ab.length:Int)),(8,I Aa)] a ∧ St [] w0 w [] ∧ Qa4 fu Ab f5 n Aa = some r) ?_ ?_ fu _ _ ?_))))))
 · rintro a w ⟨_,_,_,h⟩;exact nS h
 · rintro Ar a Ao ⟨Aa,k,m,h⟩;rw [Qa4.eq_2] at h;unfold Qb5 at h;refine wr (pN 1 k z λa k=>nn (wp_seq (cI h k z (λAe h=>?_) λAe h=>?_)))
   · refine wp_skip (Qaa ?_);refine wp_seq (wp_block (wr (pN 2 k z λa k=>nn (wr (pN 3 k z λa k=>oE h λAm Ad h=>sv k z (Qaj Ac Ad k Q27 z z z) λa k=>sv k z (Qg6 Ac (m.a00 (Enc.rd_lt Ac)) Ad Qty k z z) λa k=>oE h λAq Ak h=>Qvn k Ag z z z z z z (Ah _ _ _ _ m.ext z Ak) λAp As hR=>?_)))));obtain ⟨rfl,e⟩:=hR;refine ⟨_,z,λa k=>?_⟩;have m:=m.step e;refine nn (cI h k z (λAj h=>?_) λAj h=>?_)
     · refine wr (pN 2 k z λa k=>nn (wp_ret (Qaf (Qad (Qad (Qaf (Qad ?_)))))));refine fS h k m z z
     refine wp_skip (Qae (Qaa ?_));refine wp_region_lit (pN 2 k z λa k=>nn ?_);exact ⟨w64 (Aa + 1),k.keep [0,1,7,8] z,m.sl [] z,h⟩
   refine wp_exit (Qag (Qag (Qak (Qaa ?_))));refine wr (pN 1 k z λa k=>nn (wp_ret (fS h k m z z)))
 exact ⟨0,k.keep [0,1,7,8] z,m.sl [] z,h⟩
theorem Qrd (fu:Nat) {w0:World} (r1:Request) (Ac:Int) {Af:List Value} {F3:List Nat} (Ak:rd w0 F3 Af r1) {r:Typ × Bool}
    (h:Qgy fu r1 Ac = some r) :
    Calls Tryz.prog 79 #[.agg Af.toArray,I Ac] w0 λe w=>e = .returned (.tuple #[.agg (Flat.e r.1).toArray,.bool (r.2)]) ∧ Ext [] w0 w:=by
 refine en (vs:=[_,_]) func79 z ntmps79 z λa k m=>?_;obtain ⟨v6,F7,v8,F9,Ai,Be,rfl,rfl,Ba,Ab,Bb⟩:=Ak;unfold Qgy at h;refine wr (Qa1 (cs:=(cR r1 v6 v8 Ai)) m k z z z z z z λAv Ar a k m e Ae=>Qa1 (cs:=[I Ac]) m k z z z z z z λAl Bc a k m e Aq=>Qan (cs:=[I 0,I 0,I 0,I 0,I 0,I 0,I 0]) m k zeroValue65 z z z z z λAs Ax a k m e Ad=>pN 1 k z λa k=>nn (wr (fl Qeg t127 m 2 Ae k z z λa k=>pN 1 k z λa k=>oE h λAy Aj h=>?_)));refine cC k m call108 z (Qg9 fu _ _ (m.r Ab) ⟨163,[pt Al],z,call163,λw Au Bd r e Ah hx=>by subst Ah; have m:=m.step e; exact Qw0 fu _ _ (Aq.agr (m.a 1 rfl) (by simp)) hx⟩ Aj) λAt e a k m=>pN 1 k rfl λa k=>nn (wp_seq (wr (pN 2 k rfl λa k=>nn (cI h k rfl (λAp h=>?_) λAp h=>?_))))
 · refine wr (sv k z (Qba Q6e k (cs:=#[I 0,I 0,I 0,I 0,I 0,I 0,I 0]) (ps:=[]) z z (by kernel_rfl)) λa k=>sT (cs':=[I 0,I 0,I 0,I 0,I 0,I 0,I 0]) sizeOf65 m 0 Ad 0 k z z λAz a k e m Am=>pN 1 k z λa k=>nn (wp_ret (Qad ?_)));cases h;exact Qt6 k z (RV.cA k z Qty (Am.at (m.a 0 z) 0 7 z z z) z) (RV.tmp k z) ⟨z,m.ext⟩
 refine wp_skip (Qaa ?_);refine wr (fl Qeg t127 m 2 Ae k z z λa k=>pN 1 k z λa k=>oE h λAa Ag h=>sv k z (Qaj Ab Ag k Q27 z z z) λa k=>sv k z (Qg6 Ab (m.a00 (Enc.rd_lt Ab)) Ag Qty k z z) λa k=>sT (cs':=[I Aa.f8,I Aa.fW,I Aa.fH,I Aa.fD,I Aa.f7,I Aa.fV,I Aa.fK]) sizeOf65 m 0 Ad 0 k z z λAw a k e m Ao=>pN 1 k z λa k=>nn (wp_ret ?_));cases h;exact Qt6 k z (RV.cA k z Qty (Ao.at (m.a 0 z) 0 7 z z z) z) (RV.tmp k z) ⟨z,m.ext⟩
theorem Quj (fu:Nat) {w0:World} (r1:Request) {Ab:List Value} {F3:List Nat} (Ah:rd w0 F3 Ab r1) {r:Typ × Bool}
    (h:Qkm fu r1 = some r) :
    Calls Tryz.prog 34 #[.agg Ab.toArray] w0 λe w=>e = .returned (.tuple #[.agg (Flat.e r.1).toArray,.bool (r.2)]) ∧ Ext [] w0 w:=by
 refine en (vs:=[_]) func34 z ntmps34 z λa k m=>?_;obtain ⟨v5,F6,v7,F8,v9,Ar,rfl,rfl,Ac,Af,Ad⟩:=Ah;unfold Qkm at h;refine wr (Qa1 (cs:=(cR r1 v5 v7 v9)) m k z z z z z z λAq Am a k m e Ae=>Qan (cs:=[I 0,I 0,I 0,I 0,I 0,I 0,I 0]) m k zeroValue65 z z z z z λAk Al a k m e Aj=>pN 1 k z λa k=>nn (wr (sv k z (rL Qd7 m 1 Ae 0 k z) λa k=>fl Q3q t13 m 1 Ae k z z λa k=>oE h λAa Ag h=>?_)));refine cC k m call79 z (Qrd fu _ _ (Qah (m.r Ac) (m.r Af) (m.r Ad)) Ag) λAo e a k m=>pN 2 k z λa k=>sT (cs':=[I Aa.1.f8,I Aa.1.fW,I Aa.1.fH,I Aa.1.fD,I Aa.1.f7,I Aa.1.fV,I Aa.1.fK]) sizeOf65 m 0 Aj 0 k z z λAp a k e m Ai=>pN 1 k z λa k=>nn (wp_ret ?_);cases h;exact Qt6 k z (RV.cA k z Qty (Ai.at (m.a 0 z) 0 7 z z z) z) (RV.tmp k z) ⟨z,m.ext⟩
theorem Qcs (fu:Nat) {w0:World} (n1:Int) (Ab:Int) (Ac:Int)  {r:Bool}
    (h:Qcd fu n1 Ab Ac = some r) :
    Calls Tryz.prog 56 #[I n1,I Ab,I Ac] w0 λe w=>e = .returned (.bool (r)) ∧ Ext [] w0 w:=by
 refine en (vs:=[_,_,_]) func56 z ntmps56 z λa k m=>?_;unfold Qcd at h;refine wr (pN 1 k z λa k=>nn (wr (pN 4 k z λa k=>Qal (decide (n1 ≥ Ab)) (λAa=>?_) (λAa=>?_))))
 · have h:=Qau Aa h;refine rB k 10 z Aa λk=>pN 5 k z λa k=>nn (wp_ret (fS h k m z z))
 have h:=Qas Aa h;refine rB k 10 z Aa λk=>pN 5 k z λa k=>nn (wp_ret (fS h k m z z))
theorem Qev (fu:Nat) {w0:World} (n1:Int)  {r:Bool}
    (h:Qcv fu n1 = some r) :
    Calls Tryz.prog 176 #[I n1] w0 λe w=>e = .returned (.bool (r)) ∧ Ext [] w0 w:=by
 refine en (vs:=[_]) func176 z ntmps176 z λa k m=>?_;unfold Qcv at h;refine wr (pN 1 k z λa k=>nn (wr (pN 1 k z λa k=>oE h λx2 Aa h=>cC k m call56 z (Qcs fu _ _ _  Aa) λw5 e a k m=>pN 1 k z λa k=>nn (wp_ret (fS h k m z z)))))
theorem Qyn (fu:Nat) {w0:World} (x1:Pallet)  {r:Bool}
    (h:Qok fu x1 = some r) :
    Calls Tryz.prog 97 #[.agg (Flat.e (x1)).toArray] w0 λe w=>e = .returned (.bool (r)) ∧ Ext [] w0 w:=by
 refine en (vs:=[_]) func97 z ntmps97 z λa k m=>?_;unfold Qok at h;refine wr (Qa1 (cs:=[I x1.fW,I x1.fD,I x1.fH,I x1.fV]) m k z z z z z z λb2 w4 a k m e Ad=>pN 1 k z λa k=>nn (wr (fl Qv1 t13 m 0 Ad k z z λa k=>oE h λx5 Aj h=>cC k m call176 z (Qev fu _  Aj) λw9 e a k m=>pN 1 k z λa k=>Qal (x5) (λAa=>?_) (λAa=>?_))))
 · have h:=Qau Aa h;refine rB k 6 z Aa λk=>fl Qv8 t13 m 0 Ad k z z λa k=>oE h λAf Ae h=>cC k m call176 z (Qev fu _  Ae) λAm e a k m=>pN 2 k z λa k=>Qal (Af) (λAc=>?_) (λAc=>?_)
   · have h:=Qau Ac h;refine rB k 11 z Ac λk=>fl Qwb t13 m 0 Ad k z z λa k=>oE h λAi Ag h=>cC k m call176 z (Qev fu _  Ag) λAk e a k m=>pN 2 k z λa k=>Qal (Ai) (λAb=>?_) (λAb=>?_)
     · have h:=Qau Ab h;refine rB k 16 z Ab λk=>fl Qud t13 m 0 Ad k z z λa k=>oE h λAl Ah h=>cC k m call56 z (Qcs fu _ _ _  Ah) λAo e a k m=>pN 2 k z λa k=>nn (wp_ret (fS h k m z z))
     have h:=Qas Ab h;refine rB k 16 z Ab λk=>pN 5 k z λa k=>nn (wp_ret (fS h k m z z))
   have h:=Qas Ac h;refine rB k 11 z Ac λk=>pN 10 k z λa k=>nn (wp_ret (fS h k m z z))
 have h:=Qas Aa h;refine rB k 6 z Aa λk=>pN 15 k z λa k=>nn (wp_ret (fS h k m z z))
theorem Qpa (fu:Nat) {w0:World} (Ab:List Pair) (f5:Pair → Option Bool) {v2:Value} {F3:List Nat} (Ac:rd w0 F3 [v2] Ab) {v6:Value} (Al:Qzq Tryz.prog w0 v6 f5) {r:Int}
    (h:Qby fu Ab f5 = some r) :
    Calls Tryz.prog 177 #[v2,v6] w0 λe w=>e = .returned (I r) ∧ Ext [] w0 w:=by
 refine en (vs:=[_,_]) func177 z ntmps177 z λa k m=>?_;obtain ⟨Af,Ai,rfl,Ag,Ah⟩:=Al;unfold Qby at h;refine wr (pN 1 k z λa k=>nn (wp_seq (wr (pN 1 k z λa k=>sv k z (Qav (α:=Pair) Ac k underlying26 z z) λa k=>pN 1 k z λa k=>nn (wp_block (Qap (λn a w=>∃ (Aa:Int),K 19 [(0,v2),(1,(.func (.func Af) #[] Ai.toArray)),(7,I (Ab.length:Int)),(8,I Aa)] a ∧ St [] w0 w [] ∧ Qa3 fu Ab f5 n Aa = some r) ?_ ?_ fu _ _ ?_))))))
 · rintro a w ⟨_,_,_,h⟩;exact nS h
 · rintro Ar a Ao ⟨Aa,k,m,h⟩;rw [Qa3.eq_2] at h;unfold Qb4 at h;refine wr (pN 1 k z λa k=>nn (wp_seq (cI h k z (λAe h=>?_) λAe h=>?_)))
   · refine wp_skip (Qaa ?_);refine wp_seq (wp_block (wr (pN 2 k z λa k=>nn (wr (pN 3 k z λa k=>oE h λAm Ad h=>sv k z (Qaj Ac Ad k Jb0 z z z) λa k=>sv k z (Qg6 Ac (m.a00 (Enc.rd_lt Ac)) Ad Jcb k z z) λa k=>oE h λAq Ak h=>Qvn k Ag z z z z z z (Ah _ _ _ _ m.ext z Ak) λAp As hR=>?_)))));obtain ⟨rfl,e⟩:=hR;refine ⟨_,z,λa k=>?_⟩;have m:=m.step e;refine nn (cI h k z (λAj h=>?_) λAj h=>?_)
     · refine wr (pN 2 k z λa k=>nn (wp_ret (Qaf (Qad (Qad (Qaf (Qad ?_)))))));refine fS h k m z z
     refine wp_skip (Qae (Qaa ?_));refine wp_region_lit (pN 2 k z λa k=>nn ?_);exact ⟨w64 (Aa + 1),k.keep [0,1,7,8] z,m.sl [] z,h⟩
   refine wp_exit (Qag (Qag (Qak (Qaa ?_))));refine wr (pN 1 k z λa k=>nn (wp_ret (fS h k m z z)))
 exact ⟨0,k.keep [0,1,7,8] z,m.sl [] z,h⟩
theorem Qgc (fu:Nat) {w0:World} (Aa:List Pair) (f5:Pair → Option Bool) {v2:Value} {F3:List Nat} (Ab:rd w0 F3 [v2] Aa) {v6:Value} (Ah:Qzq Tryz.prog w0 v6 f5) {r:Bool}
    (h:Qa6 fu Aa f5 = some r) :
    Calls Tryz.prog 98 #[v2,v6] w0 λe w=>e = .returned (.bool (r)) ∧ Ext [] w0 w:=by
 refine en (vs:=[_,_]) func98 z ntmps98 z λa k m=>?_;obtain ⟨Ai,Al,rfl,Ac,Ad⟩:=Ah;unfold Qa6 at h;refine wr (pN 1 k z λa k=>nn (wr (pN 2 k z λa k=>oE h λAj Af h=>cC k m call177 z (Qpa fu _ _ (m.r Ab) ⟨_,_,z,Ac,λw Ae Ag r e=>Ad w Ae Ag r (m.ext.trans e (by simp))⟩ Af) λAk e a k m=>pN 2 k z λa k=>nn (wp_ret (fS h k m z z)))))
theorem Qw3 (fu:Nat) {w0:World} (p1:Pair)  {r:Bool}
    (h:Qkl fu p1 = some r) :
    Calls Tryz.prog 99 #[.agg (Flat.e (p1)).toArray] w0 λe w=>e = .returned (.bool (r)) ∧ Ext [] w0 w:=by
 refine en (vs:=[_]) func99 z ntmps99 z λa k m=>?_;unfold Qkl at h;refine wr (Qa1 (cs:=[I p1.fA,I p1.fB]) m k z z z z z z λb2 w4 a k m e Ab=>pN 1 k z λa k=>nn (wr (fl Qzk t13 m 0 Ab k z z λa k=>oE h λx5 Ad h=>cC k m call56 z (Qcs fu _ _ _  Ad) λw9 e a k m=>pN 2 k z λa k=>Qal (!x5) (λAa=>?_) (λAa=>?_))))
 · have h:=Qau Aa h;refine rB k 7 z Aa λk=>pN 6 k z λa k=>nn (wp_ret (fS h k m z z))
 have h:=Qas Aa h;refine rB k 7 z Aa λk=>fl Qzr t13 m 0 Ab k z z λa k=>oE h λAe Ac h=>cC k m call56 z (Qcs fu _ _ _  Ac) λAf e a k m=>pN 3 k z λa k=>nn (wp_ret (fS h k m z z))
theorem Qdj (fu:Nat) {w0:World} (Aa:List Typ) (f5:Typ → Option Bool) {v2:Value} {F3:List Nat} (Ab:rd w0 F3 [v2] Aa) {v6:Value} (Ah:Qzq Tryz.prog w0 v6 f5) {r:Bool}
    (h:Qax fu Aa f5 = some r) :
    Calls Tryz.prog 41 #[v2,v6] w0 λe w=>e = .returned (.bool (r)) ∧ Ext [] w0 w:=by
 refine en (vs:=[_,_]) func41 z ntmps41 z λa k m=>?_;obtain ⟨Ai,Al,rfl,Ac,Ad⟩:=Ah;unfold Qax at h;refine wr (pN 1 k z λa k=>nn (wr (pN 2 k z λa k=>oE h λAj Af h=>cC k m call108 z (Qg9 fu _ _ (m.r Ab) ⟨_,_,z,Ac,λw Ae Ag r e=>Ad w Ae Ag r (m.ext.trans e (by simp))⟩ Af) λAk e a k m=>pN 2 k z λa k=>nn (wp_ret (fS h k m z z)))))
theorem Q1o (fu:Nat) {w0:World} (x1:Typ)  {r:Bool}
    (h:Qr7 fu x1 = some r) :
    Calls Tryz.prog 101 #[.agg (Flat.e (x1)).toArray] w0 λe w=>e = .returned (.bool (r)) ∧ Ext [] w0 w:=by
 refine en (vs:=[_]) func101 z ntmps101 z λa k m=>?_;unfold Qr7 at h;refine wr (Qa1 (cs:=[I x1.f8,I x1.fW,I x1.fH,I x1.fD,I x1.f7,I x1.fV,I x1.fK]) m k z z z z z z λb2 w4 a k m e Aa=>pN 1 k z λa k=>nn (wr (fl Qs6 t13 m 0 Aa k z z λa k=>oE h λx5 At h=>cC k m call56 z (Qcs fu _ _ _  At) λw9 e a k m=>pN 1 k z λa k=>Qal (x5) (λAf=>?_) (λAf=>?_))))
 · have h:=Qau Af h;refine rB k 6 z Af λk=>fl Qun t13 m 0 Aa k z z λa k=>oE h λAk Ap h=>cC k m call176 z (Qev fu _  Ap) λAz e a k m=>pN 2 k z λa k=>Qal (Ak) (λAc=>?_) (λAc=>?_)
   · have h:=Qau Ac h;refine rB k 11 z Ac λk=>fl Que t13 m 0 Aa k z z λa k=>oE h λAm Ar h=>cC k m call176 z (Qev fu _  Ar) λBa e a k m=>pN 2 k z λa k=>Qal (Am) (λAd=>?_) (λAd=>?_)
     · have h:=Qau Ad h;refine rB k 16 z Ad λk=>fl Quw t13 m 0 Aa k z z λa k=>oE h λAj Aq h=>cC k m call176 z (Qev fu _  Aq) λAw e a k m=>pN 2 k z λa k=>Qal (Aj) (λAe=>?_) (λAe=>?_)
       · have h:=Qau Ae h;refine rB k 21 z Ae λk=>fl Q1b t13 m 0 Aa k z z λa k=>oE h λAs Al h=>cC k m call56 z (Qcs fu _ _ _  Al) λAy e a k m=>pN 2 k z λa k=>Qal (As) (λAg=>?_) (λAg=>?_)
         · have h:=Qau Ag h;refine rB k 26 z Ag λk=>fl Qvd t13 m 0 Aa k z z λa k=>oE h λAh Ao h=>cC k m call56 z (Qcs fu _ _ _  Ao) λAu e a k m=>pN 2 k z λa k=>Qal (Ah) (λAb=>?_) (λAb=>?_)
           · have h:=Qau Ab h;refine rB k 31 z Ab λk=>fl Qvf t13 m 0 Aa k z z λa k=>oE h λAx Ai h=>cC k m call56 z (Qcs fu _ _ _  Ai) λAv e a k m=>pN 2 k z λa k=>?_;have k:=k.keep [2] z;refine nn (wp_ret (fS h k m z z))
           have h:=Qas Ab h;refine rB k 31 z Ab λk=>pN 5 k z λa k=>?_;have k:=k.keep [2] z;refine nn (wp_ret (fS h k m z z))
         have h:=Qas Ag h;refine rB k 26 z Ag λk=>pN 10 k z λa k=>?_;have k:=k.keep [2] z;refine nn (wp_ret (fS h k m z z))
       have h:=Qas Ae h;refine rB k 21 z Ae λk=>pN 15 k z λa k=>?_;have k:=k.keep [2] z;refine nn (wp_ret (fS h k m z z))
     have h:=Qas Ad h;refine rB k 16 z Ad λk=>pN 20 k z λa k=>?_;have k:=k.keep [2] z;refine nn (wp_ret (fS h k m z z))
   have h:=Qas Ac h;refine rB k 11 z Ac λk=>pN 25 k z λa k=>?_;have k:=k.keep [2] z;refine nn (wp_ret (fS h k m z z))
 have h:=Qas Af h;refine rB k 6 z Af λk=>pN 30 k z λa k=>?_;have k:=k.keep [2] z;refine nn (wp_ret (fS h k m z z))
theorem Qw4 (fu:Nat) {w0:World} (t1:Typ)  {r:Bool}
    (h:Qj4 fu t1 = some r) :
    Calls Tryz.prog 100 #[.agg (Flat.e (t1)).toArray] w0 λe w=>e = .returned (.bool (r)) ∧ Ext [] w0 w:=by
 refine en (vs:=[_]) func100 z ntmps100 z λa k m=>?_;unfold Qj4 at h;refine wr (Qa1 (cs:=[I t1.f8,I t1.fW,I t1.fH,I t1.fD,I t1.f7,I t1.fV,I t1.fK]) m k z z z z z z λb2 w4 a k m e Aa=>pN 1 k z λa k=>nn (wr (sv k z (rL Qty m 0 Aa 0 k z) λa k=>oE h λx5 Ab h=>cC k m call101 z (Q1o fu (t1:Typ)  Ab) λw9 e a k m=>pN 2 k z λa k=>nn (wp_ret (fS h k m z z)))))
theorem Q11 (fu:Nat) {w0:World} (x1:Item)  {r:Bool}
    (h:Qrw fu x1 = some r) :
    Calls Tryz.prog 102 #[.agg (Flat.e (x1)).toArray] w0 λe w=>e = .returned (.bool (r)) ∧ Ext [] w0 w:=by
 refine en (vs:=[_]) func102 z ntmps102 z λa k m=>?_;unfold Qrw at h;refine wr (Qa1 (cs:=[I x1.f8,I x1.fW,I x1.fH,I x1.fD,I x1.fV,I x1.fF,I x1.f0]) m k z z z z z z λb2 w4 a k m e Aa=>pN 1 k z λa k=>nn (wr (fl Q07 t13 m 0 Aa k z z λa k=>oE h λx5 At h=>cC k m call56 z (Qcs fu _ _ _  At) λw9 e a k m=>pN 1 k z λa k=>Qal (x5) (λAf=>?_) (λAf=>?_))))
 · have h:=Qau Af h;refine rB k 6 z Af λk=>fl Qzc t13 m 0 Aa k z z λa k=>oE h λAk Ap h=>cC k m call176 z (Qev fu _  Ap) λAz e a k m=>pN 2 k z λa k=>Qal (Ak) (λAc=>?_) (λAc=>?_)
   · have h:=Qau Ac h;refine rB k 11 z Ac λk=>fl Qyp t13 m 0 Aa k z z λa k=>oE h λAm Ar h=>cC k m call176 z (Qev fu _  Ar) λBa e a k m=>pN 2 k z λa k=>Qal (Am) (λAd=>?_) (λAd=>?_)
     · have h:=Qau Ad h;refine rB k 16 z Ad λk=>fl Qxu t13 m 0 Aa k z z λa k=>oE h λAj Aq h=>cC k m call176 z (Qev fu _  Aq) λAw e a k m=>pN 2 k z λa k=>Qal (Aj) (λAe=>?_) (λAe=>?_)
       · have h:=Qau Ae h;refine rB k 21 z Ae λk=>fl Qxj t13 m 0 Aa k z z λa k=>oE h λAs Al h=>cC k m call56 z (Qcs fu _ _ _  Al) λAy e a k m=>pN 2 k z λa k=>Qal (As) (λAg=>?_) (λAg=>?_)
         · have h:=Qau Ag h;refine rB k 26 z Ag λk=>fl Qwg t13 m 0 Aa k z z λa k=>oE h λAh Ao h=>cC k m call56 z (Qcs fu _ _ _  Ao) λAu e a k m=>pN 2 k z λa k=>Qal (Ah) (λAb=>?_) (λAb=>?_)
           · have h:=Qau Ab h;refine rB k 31 z Ab λk=>fl Qxs t13 m 0 Aa k z z λa k=>oE h λAx Ai h=>cC k m call56 z (Qcs fu _ _ _  Ai) λAv e a k m=>pN 2 k z λa k=>?_;have k:=k.keep [2] z;refine nn (wp_ret (fS h k m z z))
           have h:=Qas Ab h;refine rB k 31 z Ab λk=>pN 5 k z λa k=>?_;have k:=k.keep [2] z;refine nn (wp_ret (fS h k m z z))
         have h:=Qas Ag h;refine rB k 26 z Ag λk=>pN 10 k z λa k=>?_;have k:=k.keep [2] z;refine nn (wp_ret (fS h k m z z))
       have h:=Qas Ae h;refine rB k 21 z Ae λk=>pN 15 k z λa k=>?_;have k:=k.keep [2] z;refine nn (wp_ret (fS h k m z z))
     have h:=Qas Ad h;refine rB k 16 z Ad λk=>pN 20 k z λa k=>?_;have k:=k.keep [2] z;refine nn (wp_ret (fS h k m z z))
   have h:=Qas Ac h;refine rB k 11 z Ac λk=>pN 25 k z λa k=>?_;have k:=k.keep [2] z;refine nn (wp_ret (fS h k m z z))
 have h:=Qas Af h;refine rB k 6 z Af λk=>pN 30 k z λa k=>?_;have k:=k.keep [2] z;refine nn (wp_ret (fS h k m z z))
theorem Qzd (fu:Nat) {w0:World} (r1:Request) {Ar:List Value} {F3:List Nat} (Bf:rd w0 F3 Ar r1) {r:Bool}
    (h:Qon fu r1 = some r) :
    Calls Tryz.prog 35 #[.agg Ar.toArray] w0 λe w=>e = .returned (.bool (r)) ∧ Ext [] w0 w:=by
 refine en (vs:=[_]) func35 z ntmps35 z λa k m=>?_;obtain ⟨v5,F6,v7,F8,v9,Cf,rfl,rfl,Ao,Am,Ac⟩:=Bf;unfold Qon at h;refine wr (Qa1 (cs:=(cR r1 v5 v7 v9)) m k z z z z z z λAl As a k m e Aa=>pN 1 k z λa k=>nn (Qb3 (λa w=>K 70 [(1,pt Al)] a ∧ St [] w0 w [([Al],As)] ∧ Qnz fu r1 = some r) ?_ ?_))
 · rintro a Ca ⟨k,m,h⟩;unfold Qnz at h;refine wp_seq (wr (fl Qoa Q1n m 0 Aa k z z λa k=>oE h λCi Az h=>cC k m call98 z (Qgc fu _ _ (m.r Ao) ⟨99,[],z,call99,λw Bu Bq r e Bh hx=>by subst Bh; have m:=m.step e; exact Qw3 fu _  hx⟩ Az) λBx e a k m=>nn (cI h k rfl (λAx h=>?_) λAx h=>?_)))
   · refine wr (pN 1 k z λa k=>nn (wp_ret (Qad ?_)));refine fS h k m z z
   refine wp_skip (Qaa ?_);refine Qb3 (λa w=>K 70 [(1,pt Al)] a ∧ St [] w0 w [([Al],As)] ∧ Qn4 fu r1 = some r) ?_ ?_
   · rintro a Cc ⟨k,m,h⟩;unfold Qn4 at h;refine wr (pN 1 k z λa k=>nn (wp_seq (wr (fl Qg8 Qvt m 0 Aa k z z λa k=>sv k z (Qav (α:=Item) Ac k underlying28 z z) λa k=>pN 1 k z λa k=>nn (wp_block (Qap (λn a w=>∃ (Aj:Int) (Ak:Int),K 70 [(3,I Aj),(54,v9),(55,I (r1.fG.length:Int)),(56,I Ak)] a ∧ St [] w0 w [] ∧ Qel fu r1 n Aj Ak = some r) ?_ ?_ fu _ _ ?_))))))
     · rintro a w ⟨_,_,_,_,h⟩;exact nS h
     · rintro Br a Ch ⟨Aj,Ak,k,m,h⟩;rw [Qel.eq_2] at h;unfold Qjb at h;refine wr (pN 1 k z λa k=>nn (wp_seq (cI h k z (λAw h=>?_) λAw h=>?_)))
       · refine wp_skip (Qaa ?_);refine wp_seq (wp_block (wr (oE h λAb Ap h=>sv k z (Qaj Ac Ap k Qz8 z z z) λa k=>sv k z (Qg6 Ac (m.a00 (Enc.rd_lt Ac)) Ap Q1l k z z) λa k=>Qan (cs:=[I 0,I 0,I 0,I 0,I 0,I 0,I 0]) m k zeroValue72 z z z z z λCg Ce a k m e Bp=>sT (cs':=[I Ab.f8,I Ab.fW,I Ab.fH,I Ab.fD,I Ab.fV,I Ab.fF,I Ab.f0]) sizeOf72 m 0 Bp 0 k z z λCl a k e m Aq=>nn (wp_seq (wr (sv k z (rL Q1l m 0 Aq 0 k z) λa k=>oE h λCb Bl h=>cC k m call102 z (Q11 fu (Ab:Item)  Bl) λBw e a k m=>?_))))));refine pN 1 k z λa k=>nn (cI h k z (λAt h=>?_) λAt h=>?_)
         · refine wr (pN 1 k z λa k=>nn (wp_ret (Qad (Qaf (Qad (Qad (Qaf (Qad ?_))))))));refine fS h k m z z
         refine wp_skip (Qaa ?_);refine wp_region_lit (pN 1 k z λa k=>fl Qxs t13 m 0 Aq k z z λa k=>pN 2 k z λa k=>wpList_nil (Qae (Qaa ?_)));refine wp_region_lit (pN 2 k z λa k=>nn ?_);exact ⟨w64 (Aj + Ab.f0),w64 (Ak + 1),k.keep [3,54,55,56] z,m.sl [] z,h⟩
       refine wp_exit (Qag (Qag (Qak (Qaa ?_))));refine wr (pN 3 k z λa k=>nn (wp_ret (fS h k m z z)))
     exact ⟨0,0,k.keep [3,54,55,56] z,m.sl [] z,h⟩
   refine wr (fl Qeg t127 m 0 Aa k z z λa k=>sv k z (Qav (α:=Typ) Am k underlying27 z z) λa k=>oE h λBi Be h=>cC k m call56 z (Qcs fu _ _ _  Be) λBt e a k m=>pN 2 k z λa k=>Qal (!Bi) (λAi=>?_) (λAi=>?_))
   · have h:=Qau Ai h;refine rB k 36 z Ai λk=>pN 16 k z λa k=>?_;have k:=k.keep [1,52] z;refine nn (wp_cond_true (k.ev z) (wr (pN 1 k z λa k=>nn (wp_ret (Qad ?_)))));refine fS h k m z z
   have h:=Qas Ai h;refine rB k 36 z Ai λk=>fl Qeg t127 m 0 Aa k z z λa k=>oE h λBc Ay h=>cC k m call41 z (Qdj fu _ _ (m.r Am) ⟨100,[],z,call100,λw By Cj r e Au hx=>by subst Au; have m:=m.step e; exact Qw4 fu _  hx⟩ Ay) λCd e a k m=>pN 2 k rfl λa k=>Qal (Bc) (λAg=>?_) (λAg=>?_)
   · have h:=Qau Ag h;refine rB k 41 z Ag λk=>pN 11 k z λa k=>?_;have k:=k.keep [1,52] z;refine nn (wp_cond_true (k.ev z) (wr (pN 1 k z λa k=>nn (wp_ret (Qad ?_)))));refine fS h k m z z
   have h:=Qas Ag h;refine rB k 41 z Ag λk=>fl Q3q t13 m 0 Aa k z z λa k=>oE h λBo Bb h=>cC k m call56 z (Qcs fu _ _ _  Bb) λBv e a k m=>pN 3 k z λa k=>Qal (!Bo) (λAf=>?_) (λAf=>?_)
   · have h:=Qau Af h;refine rB k 47 z Af λk=>pN 5 k z λa k=>?_;have k:=k.keep [1,52] z;refine nn (wp_cond_true (k.ev z) (wr (pN 1 k z λa k=>nn (wp_ret (Qad ?_)))));refine fS h k m z z
   have h:=Qas Af h;refine rB k 47 z Af λk=>fl Qg8 Qvt m 0 Aa k z z λa k=>sv k z (Qav (α:=Item) Ac k underlying28 z z) λa k=>pN 2 k z λa k=>?_;have k:=k.keep [1,52] z;refine nn (cI h k z (λBj h=>?_) λBj h=>?_)
   · refine wr (pN 1 k z λa k=>nn (wp_ret (Qad ?_)));refine fS h k m z z
   refine wp_skip (Qaa ?_);exact ⟨k.keep [1] z,m.sl [0] z,h⟩
 refine wr (fl Q5i t13 m 0 Aa k z z λa k=>oE h λBk Bg h=>cC k m call56 z (Qcs fu _ _ _  Bg) λCk e a k m=>pN 2 k z λa k=>Qal (!Bk) (λAh=>?_) (λAh=>?_))
 · have h:=Qau Ah h;refine rB k 10 z Ah λk=>pN 17 k z λa k=>nn (wp_cond_true (k.ev z) (wr (pN 1 k z λa k=>?_)));have k:=k.keep [2] z;refine nn (wp_ret (Qad ?_));refine fS h k m z z
 have h:=Qas Ah h;refine rB k 10 z Ah λk=>sv k z (Qh6 Qtf k z z) λa k=>sv k z (rL Q28 m 0 Aa 1 k z) λa k=>oE h λBd Bm h=>cC k m call97 z (Qyn fu (r1.fJ:Pallet)  Bm) λBs e a k m=>pN 3 k z λa k=>Qal (!Bd) (λAe=>?_) (λAe=>?_)
 · have h:=Qau Ae h;refine rB k 16 z Ae λk=>pN 11 k z λa k=>nn (wp_cond_true (k.ev z) (wr (pN 1 k z λa k=>?_)));have k:=k.keep [2] z;refine nn (wp_ret (Qad ?_));refine fS h k m z z
 have h:=Qas Ae h;refine rB k 16 z Ae λk=>fl Qt2 t13 m 0 Aa k z z λa k=>oE h λAv Bn h=>cC k m call56 z (Qcs fu _ _ _  Bn) λBz e a k m=>pN 3 k z λa k=>Qal (!Av) (λAd=>?_) (λAd=>?_)
 · have h:=Qau Ad h;refine rB k 22 z Ad λk=>pN 5 k z λa k=>nn (wp_cond_true (k.ev z) (wr (pN 1 k z λa k=>?_)));have k:=k.keep [2] z;refine nn (wp_ret (Qad ?_));refine fS h k m z z
 have h:=Qas Ad h;refine rB k 22 z Ad λk=>fl Qoa Q1n m 0 Aa k z z λa k=>sv k z (Qav (α:=Pair) Ao k underlying26 z z) λa k=>pN 2 k z λa k=>nn (cI h k z (λBa h=>?_) λBa h=>?_)
 · refine wr (pN 1 k z λa k=>?_);have k:=k.keep [2] z;refine nn (wp_ret (Qad ?_));refine fS h k m z z
 refine wp_skip (Qaa ?_);exact ⟨k.keep [1] z,m.sl [0] z,h⟩
theorem Qyf (fu:Nat) {w0:World} (q1:Typ) (x2:Typ) {b3:Nat} (Aa:bx w0 b3 [I x2.f8,I x2.fW,I x2.fH,I x2.fD,I x2.f7,I x2.fV,I x2.fK] 65) {r:Bool}
    (h:Qqg fu q1 x2 = some r) :
    Calls Tryz.prog 103 #[.agg (Flat.e (q1)).toArray,pt b3] w0 λe w=>e = .returned (.bool (r)) ∧ Ext [] w0 w:=by
 refine en (vs:=[_,_]) func103 z ntmps103 z λa k m=>?_;unfold Qqg at h;refine wr (Qa1 (cs:=[I q1.f8,I q1.fW,I q1.fH,I q1.fD,I q1.f7,I q1.fV,I q1.fK]) m k z z z z z z λb5 w7 a k m e Ab=>pN 1 k z λa k=>nn (wr (fl Qs6 t13 m 0 Ab k z z λa k=>sv k z (Qh6 Qs6 k z z) λa k=>sv k z (Qam t13 (r:=[]) (Aa.at (m.a00 Aa.lt1) 0 1 z z z) k z z) λa k=>pN 2 k z λa k=>nn (wp_ret (fS h k m z z)))))
theorem Qx6 (fu:Nat) {w0:World} (q1:Item) (x2:Item) {b3:Nat} (Aa:bx w0 b3 [I x2.f8,I x2.fW,I x2.fH,I x2.fD,I x2.fV,I x2.fF,I x2.f0] 72) {r:Bool}
    (h:Qql fu q1 x2 = some r) :
    Calls Tryz.prog 104 #[.agg (Flat.e (q1)).toArray,pt b3] w0 λe w=>e = .returned (.bool (r)) ∧ Ext [] w0 w:=by
 refine en (vs:=[_,_]) func104 z ntmps104 z λa k m=>?_;unfold Qql at h;refine wr (Qa1 (cs:=[I q1.f8,I q1.fW,I q1.fH,I q1.fD,I q1.fV,I q1.fF,I q1.f0]) m k z z z z z z λb5 w7 a k m e Ab=>pN 1 k z λa k=>nn (wr (fl Q07 t13 m 0 Ab k z z λa k=>sv k z (Qh6 Q07 k z z) λa k=>sv k z (Qam t13 (r:=[]) (Aa.at (m.a00 Aa.lt1) 0 1 z z z) k z z) λa k=>pN 2 k z λa k=>nn (wp_ret (fS h k m z z)))))
theorem Qpi (fu:Nat) {w0:World} (Ab:List Item) (f5:Item → Option Bool) {v2:Value} {F3:List Nat} (Ac:rd w0 F3 [v2] Ab) {v6:Value} (Al:Qzq Tryz.prog w0 v6 f5) {r:Int}
    (h:Qbx fu Ab f5 = some r) :
    Calls Tryz.prog 107 #[v2,v6] w0 λe w=>e = .returned (I r) ∧ Ext [] w0 w:=by
 refine en (vs:=[_,_]) func107 z ntmps107 z λa k m=>?_;obtain ⟨Af,Ai,rfl,Ag,Ah⟩:=Al;unfold Qbx at h;refine wr (pN 1 k z λa k=>nn (wp_seq (wr (pN 1 k z λa k=>sv k z (Qav (α:=Item) Ac k underlying28 z z) λa k=>pN 1 k z λa k=>nn (wp_block (Qap (λn a w=>∃ (Aa:Int),K 19 [(0,v2),(1,(.func (.func Af) #[] Ai.toArray)),(7,I (Ab.length:Int)),(8,I Aa)] a ∧ St [] w0 w [] ∧ Qa5 fu Ab f5 n Aa = some r) ?_ ?_ fu _ _ ?_))))))
 · rintro a w ⟨_,_,_,h⟩;exact nS h
 · rintro Ar a Ao ⟨Aa,k,m,h⟩;rw [Qa5.eq_2] at h;unfold Qb2 at h;refine wr (pN 1 k z λa k=>nn (wp_seq (cI h k z (λAe h=>?_) λAe h=>?_)))
   · refine wp_skip (Qaa ?_);refine wp_seq (wp_block (wr (pN 2 k z λa k=>nn (wr (pN 3 k z λa k=>oE h λAm Ad h=>sv k z (Qaj Ac Ad k Qz8 z z z) λa k=>sv k z (Qg6 Ac (m.a00 (Enc.rd_lt Ac)) Ad Q1l k z z) λa k=>oE h λAq Ak h=>Qvn k Ag z z z z z z (Ah _ _ _ _ m.ext z Ak) λAp As hR=>?_)))));obtain ⟨rfl,e⟩:=hR;refine ⟨_,z,λa k=>?_⟩;have m:=m.step e;refine nn (cI h k z (λAj h=>?_) λAj h=>?_)
     · refine wr (pN 2 k z λa k=>nn (wp_ret (Qaf (Qad (Qad (Qaf (Qad ?_)))))));refine fS h k m z z
     refine wp_skip (Qae (Qaa ?_));refine wp_region_lit (pN 2 k z λa k=>nn ?_);exact ⟨w64 (Aa + 1),k.keep [0,1,7,8] z,m.sl [] z,h⟩
   refine wp_exit (Qag (Qag (Qak (Qaa ?_))));refine wr (pN 1 k z λa k=>nn (wp_ret (fS h k m z z)))
 exact ⟨0,k.keep [0,1,7,8] z,m.sl [] z,h⟩
theorem Qce (fu:Nat) {w0:World} (Aa:List Item) (f5:Item → Option Bool) {v2:Value} {F3:List Nat} (Ab:rd w0 F3 [v2] Aa) {v6:Value} (Ah:Qzq Tryz.prog w0 v6 f5) {r:Bool}
    (h:Qay fu Aa f5 = some r) :
    Calls Tryz.prog 38 #[v2,v6] w0 λe w=>e = .returned (.bool (r)) ∧ Ext [] w0 w:=by
 refine en (vs:=[_,_]) func38 z ntmps38 z λa k m=>?_;obtain ⟨Ai,Al,rfl,Ac,Ad⟩:=Ah;unfold Qay at h;refine wr (pN 1 k z λa k=>nn (wr (pN 2 k z λa k=>oE h λAj Af h=>cC k m call107 z (Qpi fu _ _ (m.r Ab) ⟨_,_,z,Ac,λw Ae Ag r e=>Ad w Ae Ag r (m.ext.trans e (by simp))⟩ Af) λAk e a k m=>pN 2 k z λa k=>nn (wp_ret (fS h k m z z)))))
theorem Qyd (fu:Nat) {w0:World} (p1:Pair) (x2:Request) {v5:Value} {F6:List Nat} {v8:Value} {F9:List Nat} {Ac:Value} {Ae:List Nat} {b3:Nat} (Ab:bx w0 b3 (cR x2 v5 v8 Ac) 30) (Aj:rd w0 F6 [v5] x2.fL) (Ah:rd w0 F9 [v8] x2.fT) (Ag:rd w0 Ae [Ac] x2.fG) {r:Bool}
    (h:Qml fu p1 x2 = some r) :
    Calls Tryz.prog 105 #[.agg (Flat.e (p1)).toArray,pt b3] w0 λe w=>e = .returned (.bool (r)) ∧ Ext [] w0 w:=by
 refine en (vs:=[_,_]) func105 z ntmps105 z λa k m=>?_;unfold Qml at h;refine wr (Qa1 (cs:=[I p1.fA,I p1.fB]) m k z z z z z z λAi Af a k m e Ad=>pN 1 k z λa k=>nn (wr (fl Qzk t13 m 0 Ad k z z λa k=>sv k z (Qh6 Qt2 k z z) λa k=>sv k z (Qam t13 (r:=[]) (Ab.at (m.a00 Ab.lt1) 5 1 z z z) k z z) λa k=>pN 2 k z λa k=>Qal (decide (p1.fA ≥ x2.fR)) (λAa=>?_) (λAa=>?_))))
 · have h:=Qau Aa h;refine rB k 9 z Aa λk=>pN 7 k z λa k=>nn (wp_ret (fS h k m z z))
 have h:=Qas Aa h;refine rB k 9 z Aa λk=>fl Qzr t13 m 0 Ad k z z λa k=>sv k z (Qh6 Qt2 k z z) λa k=>sv k z (Qam t13 (r:=[]) (Ab.at (m.a00 Ab.lt1) 5 1 z z z) k z z) λa k=>pN 3 k z λa k=>nn (wp_ret (fS h k m z z))
theorem Q0e (fu:Nat) {w0:World} (r1:Request) {Ap:List Value} {F3:List Nat} (Be:rd w0 F3 Ap r1) {r:Bool}
    (h:Qpp fu r1 = some r) :
    Calls Tryz.prog 36 #[.agg Ap.toArray] w0 λe w=>e = .returned (.bool (r)) ∧ Ext [] w0 w:=by
 refine en (vs:=[_]) func36 z ntmps36 z λa k m=>?_;obtain ⟨v5,F6,v7,F8,v9,Ci,rfl,rfl,Ai,Ab,Aa⟩:=Be;unfold Qpp at h;refine wr (Qa1 (cs:=(cR r1 v5 v7 v9)) m k z z z z z z λAg Am a k m e Ac=>pN 1 k z λa k=>nn (wp_seq (wr (fl Qeg t127 m 0 Ac k z z λa k=>sv k z (Qav (α:=Typ) Ab k underlying27 z z) λa k=>pN 1 k z λa k=>nn (wp_block (Qap (λn a w=>∃ (Al:Int),K 59 [(1,pt Ag),(10,v7),(11,I (r1.fT.length:Int)),(12,I Al)] a ∧ St [] w0 w [([Ag],Am)] ∧ Qfe fu r1 n Al = some r) ?_ ?_ fu _ _ ?_))))))
 · rintro a w ⟨_,_,_,h⟩;exact nS h
 · rintro Bz a Br ⟨Al,k,m,h⟩;rw [Qfe.eq_2] at h;unfold Qlq at h;refine wr (pN 1 k z λa k=>nn (wp_seq (cI h k z (λAv h=>?_) λAv h=>?_)))
   · refine wp_skip (Qaa ?_);refine wp_seq (wp_block (wr (pN 1 k z λa k=>oE h λAf Ao h=>sv k z (Qaj Ab Ao k Q27 z z z) λa k=>sv k z (Qg6 Ab (m.a00 (Enc.rd_lt Ab)) Ao Qty k z z) λa k=>Qan (cs:=[I 0,I 0,I 0,I 0,I 0,I 0,I 0]) m k zeroValue65 z z z z z λBa By a k m e Bc=>pN 1 k z λa k=>sT (cs':=[I Af.f8,I Af.fW,I Af.fH,I Af.fD,I Af.f7,I Af.fV,I Af.fK]) sizeOf65 m 0 Bc 0 k z z λCd a k e m Au=>nn (wr (fl Qeg t127 m 1 Ac k z z λa k=>pN 1 k z λa k=>oE h λBs Bg h=>?_)))));refine Q9u Ab Bg k Q27 z z z z z z λBw a k As=>pN 1 k z λa k=>oE h λCk Az h=>cC k m call41 z (Qdj fu _ _ (m.r As) ⟨103,[pt Ba],z,call103,λw Ca Cb r e Bd hx=>by subst Bd; have m:=m.step e; exact Qyf fu _ _ (Au.agr (m.a 0 rfl) (by simp)) hx⟩ Az) λBt e a k m=>nn (cI h k rfl (λBl h=>?_) λBl h=>?_)
     · refine wr (pN 1 k z λa k=>nn (wp_ret (Qaf (Qad (Qad (Qaf (Qad ?_)))))));refine fS h k m z z
     refine wp_skip (Qae (Qaa ?_));refine wp_region_lit (pN 2 k z λa k=>nn ?_);exact ⟨w64 (Al + 1),k.keep [1,10,11,12] z,m.sl [1] z,h⟩
   refine wp_exit (Qag (Qag (Qak (Qaa ?_))));refine wp_seq (wr (fl Qg8 Qvt m 0 Ac k z z λa k=>sv k z (Qav (α:=Item) Aa k underlying28 z z) λa k=>pN 1 k z λa k=>nn (wp_block (Qap (λn a w=>∃ (Ah:Int),K 59 [(1,pt Ag),(25,v9),(26,I (r1.fG.length:Int)),(27,I Ah)] a ∧ St [] w0 w [([Ag],Am)] ∧ Qdh fu r1 n Ah = some r) ?_ ?_ fu _ _ ?_))))
   · rintro a w ⟨_,_,_,h⟩;exact nS h
   · rintro Ay a Cr ⟨Ah,k,m,h⟩;rw [Qdh.eq_2] at h;unfold Qma at h;refine wr (pN 1 k z λa k=>nn (wp_seq (cI h k z (λBm h=>?_) λBm h=>?_)))
     · refine wp_skip (Qaa ?_);refine Qb3 (λa w=>K 59 [(1,pt Ag),(25,v9),(26,I (r1.fG.length:Int)),(27,I Ah)] a ∧ St [] w0 w [([Ag],Am)] ∧ Qpe fu (Qdh fu r1 Ay) Ah = some r) ?_ ?_
       · rintro a Bx ⟨k,m,h⟩;unfold Qpe at h;refine wp_region_lit (pN 2 k z λa k=>nn ?_);exact ⟨w64 (Ah + 1),k.keep [1,25,26,27] z,m.sl [0] z,h⟩
       refine wp_block (wr (pN 1 k z λa k=>oE h λAd Aq h=>sv k z (Qaj Aa Aq k Qz8 z z z) λa k=>sv k z (Qg6 Aa (m.a00 (Enc.rd_lt Aa)) Aq Q1l k z z) λa k=>Qan (cs:=[I 0,I 0,I 0,I 0,I 0,I 0,I 0]) m k zeroValue72 z z z z z λBk Co a k m e Bh=>pN 1 k z λa k=>sT (cs':=[I Ad.f8,I Ad.fW,I Ad.fH,I Ad.fD,I Ad.fV,I Ad.fF,I Ad.f0]) sizeOf72 m 0 Bh 0 k z z λCn a k e m At=>nn (wr (fl Qwg t13 m 0 At k z z λa k=>sv k z (Qh6 Qt2 k z z) λa k=>?_))));refine sv k z (Qrc t13 m 1 Ac 5 k z z z z z) λa k=>pN 2 k z λa k=>Qal (decide (Ad.fF ≥ r1.fR)) (λAj=>?_) (λAj=>?_)
       · have h:=Qau Aj h;refine rB k 37 z Aj λk=>pN 7 k z λa k=>nn (wp_cond_true (k.ev z) (wr (pN 1 k z λa k=>nn (wp_ret (Qaf (Qad (Qad (Qaf (Qad ?_)))))))));refine fS h k m z z
       have h:=Qas Aj h;refine rB k 37 z Aj λk=>fl Qg8 Qvt m 1 Ac k z z λa k=>pN 1 k z λa k=>oE h λBp Bo h=>Q9u Aa Bo k Qz8 z z z z z z λCe a k Ar=>pN 1 k z λa k=>oE h λBv Aw h=>cC k m call38 z (Qce fu _ _ (m.r Ar) ⟨104,[pt Bk],z,call104,λw Cg Bq r e Ax hx=>by subst Ax; have m:=m.step e; exact Qx6 fu _ _ (At.agr (m.a 0 rfl) (by simp)) hx⟩ Aw) λBu e a k m=>pN 1 k rfl λa k=>nn (cI h k rfl (λBf h=>?_) λBf h=>?_)
       · refine wr (pN 1 k z λa k=>nn (wp_ret (Qaf (Qad (Qad (Qaf (Qad ?_)))))));refine fS h k m z z
       refine wp_skip (Qae (Qaa ?_));exact ⟨k.keep [1,25,26,27] z,m.sl [1] z,h⟩
     refine wp_exit (Qag (Qag (Qak (Qaa ?_))));refine wr (sv k z (rL Qd7 m 0 Ac 0 k z) λa k=>oE h λAe Bn h=>cC k m call34 z (Quj fu _ (Qah (m.r Ai) (m.r Ab) (m.r Aa)) Bn) λCp e a k m=>pN 3 k z λa k=>Qan (cs:=[I 0,I 0,I 0,I 0,I 0,I 0,I 0]) m k zeroValue65 z z z z z λCj Cf a k m e Bj=>?_);refine sT (cs':=[I Ae.1.f8,I Ae.1.fW,I Ae.1.fH,I Ae.1.fD,I Ae.1.f7,I Ae.1.fV,I Ae.1.fK]) sizeOf65 m 0 Bj 0 k z z λCl a k e m Cc=>pN 1 k z λa k=>nn (wr (pN 2 k z λa k=>Qal (Ae.2) (λAk=>?_) (λAk=>?_)))
     · have h:=Qau Ak h;refine rB k 52 z Ak λk=>fl Qoa Q1n m 1 Ac k z z λa k=>pN 1 k z λa k=>oE h λCh Bi h=>cC k m call98 z (Qgc fu _ _ (m.r Ai) ⟨105,[pt Ag],z,call105,λw Cm Cs r e Bb hx=>by subst Bb; have m:=m.step e; exact Qyd fu _ _ (Ac.agr (m.a 1 rfl) (by simp)) (m.r Ai) (m.r Ab) (m.r Aa) hx⟩ Bi) λCq e a k m=>pN 3 k rfl λa k=>nn (wp_ret (fS h k m rfl rfl))
     have h:=Qas Ak h;refine rB k 52 z Ak λk=>pN 7 k z λa k=>nn (wp_ret (fS h k m z z))
   exact ⟨0,k.keep [1,25,26,27] z,m.sl [0] z,h⟩
 exact ⟨0,k.keep [1,10,11,12] z,m.sl [0] z,h⟩
theorem Qra (fu:Nat) {w0:World} (Ab:List Pair) (v5:Pair) {v2:Value} {F3:List Nat} (Ac:rd w0 F3 [v2] Ab) {r:Int}
    (h:Qc8 fu Ab v5 = some r) :
    Calls Tryz.prog 218 #[v2,.agg (Flat.e (v5)).toArray] w0 λe w=>e = .returned (I r) ∧ Ext [] w0 w:=by
 refine en (vs:=[_,_]) func218 z ntmps218 z λa k m=>?_;unfold Qc8 at h;refine wr (Qa1 (cs:=[I v5.fA,I v5.fB]) m k z z z z z z λb6 w9 a k m e Ah=>pN 1 k z λa k=>nn (wp_seq (wr (pN 1 k z λa k=>sv k z (Qav (α:=Pair) Ac k underlying26 z z) λa k=>pN 1 k z λa k=>nn (wp_block (Qap (λn a w=>∃ (Aa:Int),K 19 [(0,v2),(3,pt b6),(7,I (Ab.length:Int)),(8,I Aa)] a ∧ St [] w0 w [([b6],w9)] ∧ Qbc fu Ab v5 n Aa = some r) ?_ ?_ fu _ _ ?_))))))
 · rintro a w ⟨_,_,_,h⟩;exact nS h
 · rintro Aj a Ak ⟨Aa,k,m,h⟩;rw [Qbc.eq_2] at h;unfold Qco at h;refine wr (pN 1 k z λa k=>nn (wp_seq (cI h k z (λAf h=>?_) λAf h=>?_)))
   · refine wp_skip (Qaa ?_);refine wp_seq (wp_block (wr (pN 2 k z λa k=>nn (wp_seq (Qhe [] Qg5 m z λAe hMd=>?_)))));have m:=hMd;have s:=Ext.refl ([]:List Nat) Ae;refine dM [1,2] 2 z k z s λa k=>dT k 0 z z s (λw s=>Qbw Jcb (Ah.at ((hMd.step s).a 0 z) 0 2 z z z) z k z z) λa k=>oE h λAg Ad h=>dT k 3 z z s (λw s=>Qaj Ac Ad k Jb0 z z z) λa k=>dT k 4 z z s (λw s=>Qg6 Ac ((hMd.step s).a00 (Enc.rd_lt Ac)) Ad Jcb k z z) λa k=>dT k 5 z z s (λw s=>Jjn Jfw (x:=v5) (y:=Ag) k z z z z z) λa k=>dD ((Qaa ?_));refine cI h k z (λAi h=>?_) λAi h=>?_
     · refine wr (pN 2 k z λa k=>nn (wp_ret (Qaf (Qad (Qad (Qaf (Qad ?_)))))));refine fS h k m z z
     refine wp_skip (Qae (Qaa ?_));refine wp_region_lit (pN 2 k z λa k=>nn ?_);exact ⟨w64 (Aa + 1),k.keep [0,3,7,8] z,m.sl [0] z,h⟩
   refine wp_exit (Qag (Qag (Qak (Qaa ?_))));refine wr (pN 1 k z λa k=>nn (wp_ret (fS h k m z z)))
 exact ⟨0,k.keep [0,3,7,8] z,m.sl [0] z,h⟩
theorem Qpo (fu:Nat) {w0:World} (Aa:List Pair) (v5:Pair) {v2:Value} {F3:List Nat} (Ab:rd w0 F3 [v2] Aa) {r:Bool}
    (h:Qcu fu Aa v5 = some r) :
    Calls Tryz.prog 178 #[v2,.agg (Flat.e (v5)).toArray] w0 λe w=>e = .returned (.bool (r)) ∧ Ext [] w0 w:=by
 refine en (vs:=[_,_]) func178 z ntmps178 z λa k m=>?_;unfold Qcu at h;refine wr (Qa1 (cs:=[I v5.fA,I v5.fB]) m k z z z z z z λb6 w9 a k m e Ad=>pN 1 k z λa k=>nn (wr (pN 1 k z λa k=>sv k z (rL Jcb m 0 Ad 0 k z) λa k=>oE h λAe Ac h=>cC k m call218 z (Qra fu _ (v5:Pair) (m.r Ab) Ac) λAf e a k m=>pN 2 k z λa k=>nn (wp_ret (fS h k m z z)))))
theorem Qrf (fu:Nat) {w0:World} (Aa:List Pair) (a5:Int) (b6:Int) {v2:Value} {F3:List Nat} (Ab:rd w0 F3 [v2] Aa) {r:Bool}
    (h:Qhi fu Aa a5 b6 = some r) :
    Calls Tryz.prog 106 #[v2,I a5,I b6] w0 λe w=>e = .returned (.bool (r)) ∧ Ext [] w0 w:=by
 refine en (vs:=[_,_,_]) func106 z ntmps106 z λa k m=>?_;unfold Qhi at h;refine wr (pN 1 k z λa k=>nn (wr (pN 3 k z λa k=>sv k z (Qba Q9d k (cs:=#[I a5,I b6]) (ps:=[(0,.tmp 8),(1,.tmp 9)]) z z (by kernel_rfl)) λa k=>oE h λx7 Ac h=>cC k m call178 z (Qpo fu _ (⟨a5,b6⟩:Pair) (m.r Ab) Ac) λAd e a k m=>pN 1 k z λa k=>nn (wp_ret (fS h k m z z)))))
theorem Q0o (fu:Nat) {w0:World} (Ad:List Pair) (Aa:Int) {v2:Value} {F3:List Nat} (Ac:rd w0 F3 [v2] Ad) {r:Bool}
    (h:Qpx fu Ad Aa = some r) :
    Calls Tryz.prog 37 #[v2,I Aa] w0 λe w=>e = .returned (.bool (r)) ∧ Ext [] w0 w:=by
 refine en (vs:=[_,_]) func37 z ntmps37 z λa k m=>?_;unfold Qpx at h;refine wr (pN 1 k z λa k=>nn (wp_seq (wr (pN 1 k z λa k=>oE h λx6 Ao h=>cC k m call56 z (Qcs fu _ _ _  Ao) λw9 e a k m=>pN 1 k z λa k=>nn (cI h k z (λAj h=>?_) λAj h=>?_)))))
 · refine wr (pN 1 k z λa k=>nn (wp_ret (Qad ?_)));refine fS h k m z z
 refine wp_skip (Qaa ?_);refine wp_seq (wr (pN 2 k z λa k=>nn (wp_block (Qap (λn a w=>∃ (Ab:Int),K 34 [(0,v2),(1,I Aa),(10,I Aa),(11,I Ab)] a ∧ St [] w0 w [] ∧ Qfg fu Ad Aa n Ab = some r) ?_ ?_ fu _ _ ?_))))
 · rintro a w ⟨_,_,_,h⟩;exact nS h
 · rintro Ai a Ax ⟨Ab,k,m,h⟩;rw [Qfg.eq_2] at h;unfold Qk9 at h;refine wr (pN 1 k z λa k=>nn (wp_seq (cI h k z (λAk h=>?_) λAk h=>?_)))
   · refine wp_skip (Qaa ?_);refine wp_seq (wp_block (wr (pN 2 k z λa k=>nn (wp_seq (wr (pN 3 k z λa k=>oE h λAy Am h=>cC k m call106 z (Qrf fu _ _ _ (m.r Ac) Am) λAq e a k m=>pN 1 k z λa k=>nn (cI h k z (λAp h=>?_) λAp h=>?_)))))))
     · refine wr (pN 1 k z λa k=>nn (wp_ret (Qad (Qaf (Qad (Qad (Qaf (Qad ?_))))))));refine fS h k m z z
     refine wp_skip (Qaa ?_);refine wr (pN 2 k z λa k=>nn (wp_block (Qap (λn a w=>∃ (Ae:Int),K 34 [(0,v2),(1,I Aa),(5,I Ab),(10,I Aa),(11,I Ab),(19,I Aa),(20,I Ae)] a ∧ St [] w0 w [] ∧ Qe6 fu (Qfg fu Ad Aa Ai) Ad Aa Ab n Ae = some r) ?_ ?_ fu _ _ ?_)))
     · rintro a w ⟨_,_,_,h⟩;exact nS h
     · rintro Av a Ar ⟨Ae,k,m,h⟩;rw [Qe6.eq_2] at h;unfold Qmc at h;refine wr (pN 1 k z λa k=>nn (wp_seq (cI h k z (λAh h=>?_) λAh h=>?_)))
       · refine wp_skip (Qaa ?_);refine wp_seq (wp_block (wr (pN 2 k z λa k=>nn (wr (pN 3 k z λa k=>oE h λAu Ag h=>cC k m call106 z (Qrf fu _ _ _ (m.r Ac) Ag) λAw e a k m=>pN 3 k z λa k=>oE h λAs Al h=>cC k m call106 z (Qrf fu _ _ _ (m.r Ac) Al) λAt e a k m=>sv k z (Jd1 k underlying4 z z z) λa k=>nn (cI h k z (λAf h=>?_) λAf h=>?_))))))
         · refine wr (pN 1 k z λa k=>nn (wp_ret (Qaf (Qad (Qad (Qaf (Qaf (Qad (Qad (Qaf (Qad ?_)))))))))));refine fS h k m z z
         refine wp_skip (Qae (Qaa ?_));refine wp_region_lit (pN 2 k z λa k=>nn ?_);exact ⟨w64 (Ae + 1),k.keep [0,1,5,10,11,19,20] z,m.sl [] z,h⟩
       refine wp_exit (Qag (Qag (Qak (Qae (Qaa ?_)))));refine wp_region_lit (pN 2 k z λa k=>nn ?_);exact ⟨w64 (Ab + 1),k.keep [0,1,10,11] z,m.sl [] z,h⟩
     exact ⟨0,k.keep [0,1,5,10,11,19,20] z,m.sl [] z,h⟩
   refine wp_exit (Qag (Qag (Qak (Qaa ?_))));refine wr (pN 1 k z λa k=>nn (wp_ret (fS h k m z z)))
 exact ⟨0,k.keep [0,1,10,11] z,m.sl [] z,h⟩
theorem Qir (fu:Nat) {w0:World} (x1:List Int) {v2:Value} {F3:List Nat} (Aa:ow w0 F3 [v2] x1) {r:List Int}
    (h:Qc1 fu x1 = some r) :
    Calls Tryz.prog 68 #[v2] w0 λe w=>∃ H:List Nat,e = .returned (.tuple #[]) ∧ Ext F3 w0 w ∧ (∀ b ∈ H,b ∈ F3 ∨ w0.heap.size ≤ b) ∧ ow w H [v2] r :=
  (Q76 (λblk off cap zs w=>Tryz.slices_Sort_int blk off cap zs w) (λp cap w=>Tryz.slices_Sort_int_none p cap w) x1 Aa h).mono λe w ⟨h1,h2,h3⟩=>⟨_,h1,h2,λb hb=>.inl hb,h3⟩
theorem Qyt (fu:Nat) {w0:World} (x1:Item) (t2:Typ)  {r:Bool}
    (h:Qsk fu x1 t2 = some r) :
    Calls Tryz.prog 40 #[.agg (Flat.e (x1)).toArray,.agg (Flat.e (t2)).toArray] w0 λe w=>e = .returned (.bool (r)) ∧ Ext [] w0 w:=by
 refine en (vs:=[_,_]) func40 z ntmps40 z λa k m=>?_;unfold Qsk at h;refine wr (Qa1 (cs:=[I x1.f8,I x1.fW,I x1.fH,I x1.fD,I x1.fV,I x1.fF,I x1.f0]) m k z z z z z z λb3 w5 a k m e Ag=>Qa1 (cs:=[I t2.f8,I t2.fW,I t2.fH,I t2.fD,I t2.f7,I t2.fV,I t2.fK]) m k z z z z z z λb6 w9 a k m e Af=>pN 1 k z λa k=>nn ?_);refine Qb3 (λa w=>∃ (Aj:List Int) (Al:Value) (Am:List Nat) (Ak:World) (Ah:List Int) (Ai:Value) (Ap:List Nat) (Ao:World),K 57 [(2,pt b3),(3,pt b6),(5,Al),(6,Ai)] a ∧ St [] w0 w [([b3],w5),([b6],w9),(Am,Ak),(Ap,Ao)] ∧ ow Ak Am [Al] Aj ∧ ow Ao Ap [Ai] Ah ∧ Qss fu x1 t2 Aj Ah = some r) ?_ ?_
 · rintro a Ck ⟨Aj,Al,Am,Ak,Ah,Ai,Ap,Ao,k,m,Bs,Bl,h⟩;unfold Qss at h;refine wr (pN 1 k z λa k=>oE h λCl Bq h=>sC k call68 z (Qir fu _ (m.v Bs 2 z) Bq) λCo Ce hR=>?_);obtain ⟨Ct,rfl,e,Be,Aa⟩:=hR;refine ⟨_,z,λa k=>?_⟩;have m:=m.mut 2 z e _ (λb hb=>⟨Be b hb,Enc.rd_lt (Enc.ow_rd Aa) b hb⟩) (Enc.ow_nd Aa);refine nn (wr (pN 1 k z λa k=>oE h λCn Cb h=>sC k call68 z (Qir fu _ (m.v Bl 3 z) Cb) λCg Cp hR=>?_));obtain ⟨Cf,rfl,e,Bk,Ab⟩:=hR;refine ⟨_,z,λa k=>?_⟩;have m:=m.mut 3 z e _ (λb hb=>⟨Bk b hb,Enc.rd_lt (Enc.ow_rd Ab) b hb⟩) (Enc.ow_nd Ab);refine nn (wp_seq (Qhe [] Qg5 m z λBc hMd=>?_));have m:=hMd;have s:=Ext.refl ([]:List Nat) Bc
   refine dM [0,3] 2 z k z s λa k=>oE h λBj Aq h=>dT k 1 z z s (λw s=>Qaj (Enc.ow_rd Aa) Aq k Qhx z z z) λa k=>dT k 2 z z s (λw s=>Qaq (Enc.ow_rd Aa) ((hMd.step s).a 2 z) Aq 0 t13 k z z z z) λa k=>oE h λBb Ax h=>dT k 4 z z s (λw s=>Qaj (Enc.ow_rd Ab) Ax k Qhx z z z) λa k=>dT k 5 z z s (λw s=>Qaq (Enc.ow_rd Ab) ((hMd.step s).a 3 z) Ax 0 t13 k z z z z) λa k=>dM [6,7] 2 z k z s λa k=>Qal (decide (Bj ≤ Bb)) (λAc=>?_) (λAc=>?_)
   · have h:=Qau Ac h;refine rB k 32 z Ac λk=>dM [8,11] 2 z k z s λa k=>oE h λBv Aw h=>dT k 9 z z s (λw s=>Qaj (Enc.ow_rd Aa) Aw k Qhx z z z) λa k=>dT k 10 z z s (λw s=>Qaq (Enc.ow_rd Aa) ((hMd.step s).a 2 z) Aw 0 t13 k z z z z) λa k=>oE h λBa Av h=>dT k 12 z z s (λw s=>Qaj (Enc.ow_rd Ab) Av k Qhx z z z) λa k=>dT k 13 z z s (λw s=>Qaq (Enc.ow_rd Ab) ((hMd.step s).a 3 z) Av 0 t13 k z z z z) λa k=>dM [14,15,16] 3 z k z s λa k=>Qal (decide (Bv ≤ Ba)) (λAe=>?_) (λAe=>?_)
     · have h:=Qau Ae h;refine rB k 41 z Ae λk=>dM [17,20] 2 z k z s λa k=>oE h λBn Az h=>dT k 18 z z s (λw s=>Qaj (Enc.ow_rd Aa) Az k Qhx z z z) λa k=>dT k 19 z z s (λw s=>Qaq (Enc.ow_rd Aa) ((hMd.step s).a 2 z) Az 0 t13 k z z z z) λa k=>oE h λBz As h=>dT k 21 z z s (λw s=>Qaj (Enc.ow_rd Ab) As k Qhx z z z) λa k=>dT k 22 z z s (λw s=>Qaq (Enc.ow_rd Ab) ((hMd.step s).a 3 z) As 0 t13 k z z z z) λa k=>dM [23,24,25] 3 z k z s λa k=>Qal (decide (Bn ≤ Bz)) (λAd=>?_) (λAd=>?_)
       · have h:=Qau Ad h;refine rB k 50 z Ad λk=>dF k 26 Qxj z s λa k=>dT k 27 z z s (λw s=>Qam t13 (r:=[]) (Ag.at ((hMd.step s).a 0 z) 4 1 z z z) k z z) λa k=>dF k 28 Qvd z s λa k=>dT k 29 z z s (λw s=>Qam t13 (r:=[]) (Af.at ((hMd.step s).a 1 z) 5 1 z z z) k z z) λa k=>dM [30,31,32] 3 z k z s λa k=>dD ?_;have k:=k.keep [4] z;refine (Qaa ?_);refine wp_ret (fS h k m z z)
       have h:=Qas Ad h;refine rB k 50 z Ad λk=>dM [26,27,28,29,30,31,32] 7 z k z s λa k=>dD ?_;have k:=k.keep [4] z;refine (Qaa ?_);refine wp_ret (fS h k m z z)
     have h:=Qas Ae h;refine rB k 41 z Ae λk=>dM [17,18,19,20,21,22,23,24,25,26,27,28,29,30,31,32] 16 z k z s λa k=>dD ?_;have k:=k.keep [4] z;refine (Qaa ?_);refine wp_ret (fS h k m z z)
   have h:=Qas Ac h;refine rB k 32 z Ac λk=>dM [8,9,10,11,12,13,14,15,16,17,18,19,20,21,22,23,24,25,26,27,28,29,30,31,32] 25 z k z s λa k=>dD ?_;have k:=k.keep [4] z;refine (Qaa ?_);refine wp_ret (fS h k m z z)
 refine Qhe [] Qg5 m z λBi hMd=>?_;have m:=hMd;have s:=Ext.refl ([]:List Nat) Bi;refine dF k 0 Qzc z s λa k=>dT k 1 z z s (λw s=>Qam t13 (r:=[]) (Ag.at ((hMd.step s).a 1 z) 1 1 z z z) k z z) λa k=>dF k 2 Qyp z s λa k=>dT k 3 z z s (λw s=>Qam t13 (r:=[]) (Ag.at ((hMd.step s).a 1 z) 2 1 z z z) k z z) λa k=>dF k 4 Qxu z s λa k=>dT k 5 z z s (λw s=>Qam t13 (r:=[]) (Ag.at ((hMd.step s).a 1 z) 3 1 z z z) k z z) λa k=>?_;refine dF k 7 Qun z s λa k=>dT k 8 z z s (λw s=>Qam t13 (r:=[]) (Af.at ((hMd.step s).a 0 z) 1 1 z z z) k z z) λa k=>dF k 9 Que z s λa k=>dT k 10 z z s (λw s=>Qam t13 (r:=[]) (Af.at ((hMd.step s).a 0 z) 2 1 z z z) k z z) λa k=>dF k 11 Quw z s λa k=>dT k 12 z z s (λw s=>Qam t13 (r:=[]) (Af.at ((hMd.step s).a 0 z) 3 1 z z z) k z z) λa k=>Qhz 6 13 (by kernel_rfl) z z ?_ ?_
 · refine Qcp (cs:=[I x1.fW,I x1.fH,I x1.fD]) (ps:=[(0,.tmp 8),(1,.tmp 10),(2,.tmp 12)]) Qb8 m k z z z z z z z (by decide) z (by exact fC z (fC z (fC z fN))) λAu Ca Cj a k m e Bo Bg=>?_;have Cr:=lo1 (Nat.le_trans s.size Bg);have Bm:=Qa2 Bo ([x1.fW,x1.fH,x1.fD]:List Int) z z z;refine ns s e λs=>?_;refine dM [14] 1 z k z s λa k=>dO 13 z (Qcp (cs:=[I t2.fW,I t2.fH,I t2.fD]) (ps:=[(0,.tmp 15),(1,.tmp 17),(2,.tmp 19)]) Qb8 m k z z z z z z z (by decide) z (by exact fC z (fC z (fC z fN))) λAy Bd Cq a k m e Bw Bh=>?_);have Cu:=lo1 (Nat.le_trans s.size Bh);have Bx:=Qa2 Bw ([t2.fW,t2.fH,t2.fD]:List Int) z z z;refine ns s e λs=>?_;refine dM [15] 1 z k z s λa k=>dD ((Qaa ?_));exact ⟨([x1.fW,x1.fH,x1.fD]:List Int),(.slice (some ⟨Au,0,none⟩) 3 3),[Au],Ca,([t2.fW,t2.fH,t2.fD]:List Int),(.slice (some ⟨Ay,0,none⟩) 3 3),[Ay],Bd,k.keep [2,3,5,6] z,m.sl [3,2,1,0] z,Bm,Bx,h⟩
 refine Qcp (cs:=[I t2.fW,I t2.fH,I t2.fD]) (ps:=[(0,.tmp 15),(1,.tmp 17),(2,.tmp 19)]) Qb8 m k z z z z z z z (by decide) z (by exact fC z (fC z (fC z fN))) λAr Cc Ci a k m e Cd Bf=>?_;have Cs:=lo1 (Nat.le_trans s.size Bf);have By:=Qa2 Cd ([t2.fW,t2.fH,t2.fD]:List Int) z z z;refine ns s e λs=>?_;refine dO 6 z (Qcp (cs:=[I x1.fW,I x1.fH,I x1.fD]) (ps:=[(0,.tmp 8),(1,.tmp 10),(2,.tmp 12)]) Qb8 m k z z z z z z z (by decide) z (by exact fC z (fC z (fC z fN))) λAt Bp Cm a k m e Br Bt=>?_);have Ch:=lo1 (Nat.le_trans s.size Bt);have Bu:=Qa2 Br ([x1.fW,x1.fH,x1.fD]:List Int) z z z;refine ns s e λs=>?_;refine dM [14,15] 2 z k z s λa k=>dD ((Qaa ?_));exact ⟨([x1.fW,x1.fH,x1.fD]:List Int),(.slice (some ⟨At,0,none⟩) 3 3),[At],Bp,([t2.fW,t2.fH,t2.fD]:List Int),(.slice (some ⟨Ar,0,none⟩) 3 3),[Ar],Cc,k.keep [2,3,5,6] z,m.sl [3,2,0,1] z,Bu,By,h⟩
theorem Q0x (fu:Nat) {w0:World} (x1:Item) (x2:Typ) {b3:Nat} (Aa:bx w0 b3 [I x2.f8,I x2.fW,I x2.fH,I x2.fD,I x2.f7,I x2.fV,I x2.fK] 65) {r:Bool}
    (h:Qp1 fu x1 x2 = some r) :
    Calls Tryz.prog 39 #[.agg (Flat.e (x1)).toArray,pt b3] w0 λe w=>e = .returned (.bool (r)) ∧ Ext [] w0 w:=by
 refine en (vs:=[_,_]) func39 z ntmps39 z λa k m=>?_;unfold Qp1 at h;refine wr (Qa1 (cs:=[I x1.f8,I x1.fW,I x1.fH,I x1.fD,I x1.fV,I x1.fF,I x1.f0]) m k z z z z z z λb5 w7 a k m e Ac=>pN 1 k z λa k=>nn (wr (sv k z (rL Q1l m 0 Ac 0 k z) λa k=>sv k z (Qbw Qty (Aa.at (m.a00 Aa.lt1) 0 7 z z z) z k z z) λa k=>oE h λx8 Ab h=>cC k m call40 z (Qyt fu (x1:Item) (x2:Typ)  Ab) λAd e a k m=>pN 2 k z λa k=>nn (wp_ret (fS h k m z z)))))
theorem Q0p (fu:Nat) {w0:World} (t1:Typ) (x2:Pallet) {b3:Nat} (Aa:bx w0 b3 [I x2.fW,I x2.fD,I x2.fH,I x2.fV] 25) {r:Bool}
    (h:Qqc fu t1 x2 = some r) :
    Calls Tryz.prog 42 #[.agg (Flat.e (t1)).toArray,pt b3] w0 λe w=>e = .returned (.bool (r)) ∧ Ext [] w0 w:=by
 refine en (vs:=[_,_]) func42 z ntmps42 z λa k m=>?_;unfold Qqc at h;refine wr (Qa1 (cs:=[I t1.f8,I t1.fW,I t1.fH,I t1.fD,I t1.f7,I t1.fV,I t1.fK]) m k z z z z z z λb5 w7 a k m e Ad=>pN 1 k z λa k=>nn (wr (fl Qun t13 m 0 Ad k z z λa k=>sv k z (Qh6 Qv1 k z z) λa k=>sv k z (Qam t13 (r:=[]) (Aa.at (m.a00 Aa.lt1) 0 1 z z z) k z z) λa k=>pN 2 k z λa k=>Qal (decide (t1.fW > x2.fW)) (λAb=>?_) (λAb=>?_))))
 · have h:=Qau Ab h;refine rB k 9 z Ab λk=>pN 24 k z λa k=>?_;have k:=k.keep [3] z;refine nn (wp_ret (fS h k m z z))
 have h:=Qas Ab h;refine rB k 9 z Ab λk=>fl Quw t13 m 0 Ad k z z λa k=>sv k z (Qh6 Qv8 k z z) λa k=>sv k z (Qam t13 (r:=[]) (Aa.at (m.a00 Aa.lt1) 1 1 z z z) k z z) λa k=>pN 3 k z λa k=>Qal (decide (t1.fD > x2.fD)) (λAe=>?_) (λAe=>?_)
 · have h:=Qau Ae h;refine rB k 16 z Ae λk=>pN 17 k z λa k=>?_;have k:=k.keep [3] z;refine nn (wp_ret (fS h k m z z))
 have h:=Qas Ae h;refine rB k 16 z Ae λk=>fl Que t13 m 0 Ad k z z λa k=>sv k z (Qh6 Qwb k z z) λa k=>sv k z (Qam t13 (r:=[]) (Aa.at (m.a00 Aa.lt1) 2 1 z z z) k z z) λa k=>pN 3 k z λa k=>Qal (decide (t1.fH > x2.fH)) (λAc=>?_) (λAc=>?_)
 · have h:=Qau Ac h;refine rB k 23 z Ac λk=>pN 10 k z λa k=>?_;have k:=k.keep [3] z;refine nn (wp_ret (fS h k m z z))
 have h:=Qas Ac h;refine rB k 23 z Ac λk=>fl Q1b t13 m 0 Ad k z z λa k=>fl Qvd t13 m 0 Ad k z z λa k=>pN 1 k z λa k=>sv k z (Qh6 Qud k z z) λa k=>sv k z (Qam t13 (r:=[]) (Aa.at (m.a00 Aa.lt1) 3 1 z z z) k z z) λa k=>pN 3 k z λa k=>?_;have k:=k.keep [3] z;refine nn (wp_ret (fS h k m z z))
theorem Q3d (fu:Nat) {w0:World} (r1:Request) {Af:List Value} {F3:List Nat} (Ar:rd w0 F3 Af r1) {r:Int}
    (h:Qs2 fu r1 = some r) :
    Calls Tryz.prog 14 #[.agg Af.toArray] w0 λe w=>e = .returned (I r) ∧ Ext [] w0 w:=by
 refine en (vs:=[_]) func14 z ntmps14 z λa k m=>?_;obtain ⟨v5,F6,v7,F8,v9,Bt,rfl,rfl,Ad,Ac,Ab⟩:=Ar;unfold Qs2 at h;refine wr (Qa1 (cs:=(cR r1 v5 v7 v9)) m k z z z z z z λBo Bu a k m e Aa=>pN 1 k z λa k=>nn (wr (sv k z (rL Qd7 m 0 Aa 0 k z) λa k=>oE h λAe Av h=>cC k m call34 z (Quj fu _ (Qah (m.r Ad) (m.r Ac) (m.r Ab)) Av) λBv e a k m=>?_)));refine pN 3 k z λa k=>Qan (cs:=[I 0,I 0,I 0,I 0,I 0,I 0,I 0]) m k zeroValue65 z z z z z λAm Bq a k m e Ag=>sT (cs':=[I Ae.1.f8,I Ae.1.fW,I Ae.1.fH,I Ae.1.fD,I Ae.1.f7,I Ae.1.fV,I Ae.1.fK]) sizeOf65 m 0 Ag 0 k z z λBj a k e m Aq=>pN 1 k z λa k=>nn (wr (sv k z (Qh6 Qtf k z z) λa k=>sv k z (rL Q28 m 1 Aa 1 k z) λa k=>Qan (cs:=[I 0,I 0,I 0,I 0]) m k zeroValue25 z z z z z λAl Bn a k m e At=>?_))
 refine sT (cs':=[I r1.fJ.fW,I r1.fJ.fD,I r1.fJ.fH,I r1.fJ.fV]) sizeOf25 m 0 At 0 k z z λBr a k e m Ba=>nn (wp_seq (wp_block (wr (sv k z (rL Qd7 m 2 Aa 0 k z) λa k=>oE h λBd Aw h=>cC k m call35 z (Qzd fu _ (Qah (m.r Ad) (m.r Ac) (m.r Ab)) Aw) λBh e a k m=>pN 2 k z λa k=>nn ?_))));refine cI h k z (λAh h=>?_) λAh h=>?_
 · refine wr (pN 1 k z λa k=>nn (wp_ret (Qaf (Qad ?_))));refine fS h k m z z
 refine wr (sv k z (rL Qd7 m 2 Aa 0 k z) λa k=>oE h λBl Ao h=>cC k m call36 z (Q0e fu _ (Qah (m.r Ad) (m.r Ac) (m.r Ab)) Ao) λBi e a k m=>pN 2 k z λa k=>nn (cI h k z (λAj h=>?_) λAj h=>?_))
 · refine wr (pN 1 k z λa k=>nn (wp_ret (Qaf (Qad ?_))));refine fS h k m z z
 refine wr (fl Qoa Q1n m 2 Aa k z z λa k=>fl Qt2 t13 m 2 Aa k z z λa k=>oE h λBe Ai h=>cC k m call37 z (Q0o fu _ _ (m.r Ad) Ai) λBc e a k m=>pN 2 k z λa k=>?_);have k:=k.keep [1,3,5,21] z;refine nn (cI h k z (λAk h=>?_) λAk h=>?_)
 · refine wr (pN 1 k z λa k=>nn (wp_ret (Qaf (Qad ?_))));refine fS h k m z z
 refine wr (fl Qg8 Qvt m 2 Aa k z z λa k=>pN 1 k z λa k=>oE h λBk As h=>cC k m call38 z (Qce fu _ _ (m.r Ab) ⟨39,[pt Am],z,call39,λw Bf Bb r e Ap hx=>by subst Ap; have m:=m.step e; exact Q0x fu _ _ (Aq.agr (m.a 1 rfl) (by simp)) hx⟩ As) λBg e a k m=>pN 1 k rfl λa k=>nn (cI h k rfl (λAz h=>?_) λAz h=>?_))
 · refine wr (pN 1 k z λa k=>nn (wp_ret (Qaf (Qad ?_))));refine fS h k m z z
 refine wr (fl Qeg t127 m 2 Aa k z z λa k=>pN 1 k z λa k=>oE h λBp Ay h=>cC k m call41 z (Qdj fu _ _ (m.r Ac) ⟨42,[pt Al],z,call42,λw Bw Bm r e Ax hx=>by subst Ax; have m:=m.step e; exact Q0p fu _ _ (Ba.agr (m.a 0 rfl) (by simp)) hx⟩ Ay) λBs e a k m=>pN 1 k rfl λa k=>nn (cI h k rfl (λAu h=>?_) λAu h=>?_))
 · refine wr (pN 1 k z λa k=>nn (wp_ret (Qaf (Qad ?_))));refine fS h k m z z
 refine wp_skip (Qae (Qaa ?_));refine wr (pN 1 k z λa k=>nn (wp_ret (fS h k m z z)))
theorem Qoh (fu:Nat) {w0:World} (r1:Request) {Aa:List Value} {F3:List Nat} (Ag:rd w0 F3 Aa r1) {r:Bool}
    (h:Qg0 fu r1 = some r) :
    Calls Tryz.prog 48 #[.agg Aa.toArray] w0 λe w=>e = .returned (.bool (r)) ∧ Ext [] w0 w:=by
 refine en (vs:=[_]) func48 z ntmps48 z λa k m=>?_;obtain ⟨v5,F6,v7,F8,v9,Al,rfl,rfl,Ab,Ad,Ac⟩:=Ag;unfold Qg0 at h;refine wr (Qa1 (cs:=(cR r1 v5 v7 v9)) m k z z z z z z λAk Ah a k m e Af=>pN 1 k z λa k=>nn (wr (sv k z (rL Qd7 m 0 Af 0 k z) λa k=>oE h λAj Ae h=>cC k m call14 z (Q3d fu _ (Qah (m.r Ab) (m.r Ad) (m.r Ac)) Ae) λAi e a k m=>?_)));refine pN 2 k z λa k=>nn (wp_ret (fS h k m z z))
theorem Qws (fu:Nat) {w0:World} (Ac:List Int) {v2:Value} {F3:List Nat} (Aa:rd w0 F3 [v2] Ac) {r:Bool}
    (h:Qkn fu Ac = some r) :
    Calls Tryz.prog 149 #[v2] w0 λe w=>e = .returned (.bool (r)) ∧ Ext [] w0 w:=by
 refine en (vs:=[_]) func149 z ntmps149 z λa k m=>?_;unfold Qkn at h;refine wr (pN 1 k z λa k=>nn (wp_seq (wr (pN 1 k z λa k=>sv k z (Qav (α:=Int) Aa k underlying49 z z) λa k=>pN 1 k z λa k=>nn (wp_block (Qap (λn a w=>∃ (Ab:Int),K 32 [(0,v2),(5,v2),(6,I (Ac.length:Int)),(7,I Ab)] a ∧ St [] w0 w [] ∧ Qdi fu Ac n Ab = some r) ?_ ?_ fu _ _ ?_))))))
 · rintro a w ⟨_,_,_,h⟩;exact nS h
 · rintro Ai a Ao ⟨Ab,k,m,h⟩;rw [Qdi.eq_2] at h;unfold Qie at h;refine wr (pN 1 k z λa k=>nn (wp_seq (cI h k z (λAk h=>?_) λAk h=>?_)))
   · refine wp_skip (Qaa ?_);refine Qb3 (λa w=>K 32 [(0,v2),(5,v2),(6,I (Ac.length:Int)),(7,I Ab)] a ∧ St [] w0 w [] ∧ Qhh fu (Qdi fu Ac Ai) Ab = some r) ?_ ?_
     · rintro a Am ⟨k,m,h⟩;unfold Qhh at h;refine wp_region_lit (pN 2 k z λa k=>nn ?_);exact ⟨w64 (Ab + 1),k.keep [0,5,6,7] z,m.sl [] z,h⟩
     refine wp_block (wr (pN 1 k z λa k=>oE h λAp Af h=>sv k z (Qaj Aa Af k Qhx z z z) λa k=>sv k z (Qaq Aa (m.a00 (Enc.rd_lt Aa)) Af 0 t13 k z z z z) λa k=>pN 2 k z λa k=>nn (wr (pN 1 k z λa k=>oE h λAj Ah h=>cC k m call56 z (Qcs fu _ _ _  Ah) λAq e a k m=>pN 2 k z λa k=>Qal (!Aj) (λAe=>?_) (λAe=>?_)))))
     · have h:=Qau Ae h;refine rB k 15 z Ae λk=>pN 12 k z λa k=>nn (wp_cond_true (k.ev z) (wr (pN 1 k z λa k=>nn (wp_ret (Qaf (Qad (Qad (Qaf (Qad ?_)))))))));refine fS h k m z z
     have h:=Qas Ae h;refine rB k 15 z Ae λk=>pN 3 k z λa k=>Qal (decide (Ab > 0)) (λAd=>?_) (λAd=>?_)
     · have h:=Qau Ad h;refine rB k 18 z Ad λk=>pN 3 k z λa k=>oE h λAr Ag h=>sv k z (Qaj Aa Ag k Qhx z z z) λa k=>sv k z (Qaq Aa (m.a00 (Enc.rd_lt Aa)) Ag 0 t13 k z z z z) λa k=>pN 4 k z λa k=>nn (cI h k z (λAl h=>?_) λAl h=>?_)
       · refine wr (pN 1 k z λa k=>nn (wp_ret (Qaf (Qad (Qad (Qaf (Qad ?_)))))));refine fS h k m z z
       refine wp_skip (Qae (Qaa ?_));exact ⟨k.keep [0,5,6,7] z,m.sl [] z,h⟩
     have h:=Qas Ad h;refine rB k 18 z Ad λk=>pN 9 k z λa k=>nn (wp_cond_false (k.ev z) (wp_skip (Qae (Qaa ?_))));exact ⟨k.keep [0,5,6,7] z,m.sl [] z,h⟩
   refine wp_exit (Qag (Qag (Qak (Qaa ?_))));refine wr (pN 1 k z λa k=>sv k z (Qav (α:=Int) Aa k underlying49 z z) λa k=>pN 2 k z λa k=>nn (wp_ret (fS h k m z z)))
 exact ⟨0,k.keep [0,5,6,7] z,m.sl [] z,h⟩
theorem Qdg (fu:Nat) {w0:World} (n1:Int)  {r:Bool}
    (h:Qb7 fu n1 = some r) :
    Calls Tryz.prog 150 #[I n1] w0 λe w=>e = .returned (.bool (r)) ∧ Ext [] w0 w:=by
 refine en (vs:=[_]) func150 z ntmps150 z λa k m=>?_;unfold Qb7 at h;refine wr (pN 1 k z λa k=>nn (wr (pN 1 k z λa k=>oE h λx2 Aa h=>cC k m call56 z (Qcs fu _ _ _  Aa) λw5 e a k m=>pN 1 k z λa k=>nn (wp_ret (fS h k m z z)))))
theorem Q1z (fu:Nat) {w0:World} (x1:Plan) {At:List Value} {F3:List Nat} (Bg:rd w0 F3 At x1) {r:Bool}
    (h:Qro fu x1 = some r) :
    Calls Tryz.prog 64 #[.agg At.toArray] w0 λe w=>e = .returned (.bool (r)) ∧ Ext [] w0 w:=by
 refine en (vs:=[_]) func64 z ntmps64 z λa k m=>?_;obtain ⟨v5,F6,v7,F8,rfl,rfl,Ac,Al⟩:=Bg;unfold Qro at h;refine wr (Qa1 (cs:=[v5,v7]) m k z z z z z z λAb Ar a k m e Ad=>pN 1 k z λa k=>nn (Qb3 (λa w=>K 73 [(1,pt Ab)] a ∧ St [] w0 w [([Ab],Ar)] ∧ Qqw fu x1 = some r) ?_ ?_))
 · rintro a Ci ⟨k,m,h⟩;unfold Qqw at h;refine wp_seq (wr (fl Qbl Qmt m 0 Ad k z z λa k=>sv k z (Qav (α:=Carton) Ac k underlying31 z z) λa k=>pN 1 k z λa k=>nn (wp_block (Qap (λn a w=>∃ (Aa:Int),K 73 [(1,pt Ab),(20,v5),(21,I (x1.fQ.length:Int)),(22,I Aa)] a ∧ St [] w0 w [([Ab],Ar)] ∧ Qf2 fu x1 n Aa = some r) ?_ ?_ fu _ _ ?_))))
   · rintro a w ⟨_,_,_,h⟩;exact nS h
   · rintro Ay a Bu ⟨Aa,k,m,h⟩;rw [Qf2.eq_2] at h;unfold Qna at h;refine wr (pN 1 k z λa k=>nn (wp_seq (cI h k z (λBj h=>?_) λBj h=>?_)))
     · refine wp_skip (Qaa ?_);refine Qb3 (λa w=>K 73 [(1,pt Ab),(20,v5),(21,I (x1.fQ.length:Int)),(22,I Aa)] a ∧ St [] w0 w [([Ab],Ar)] ∧ Qqq fu (Qf2 fu x1 Ay) Aa = some r) ?_ ?_
       · rintro a Cf ⟨k,m,h⟩;unfold Qqq at h;refine wp_region_lit (pN 2 k z λa k=>nn ?_);exact ⟨w64 (Aa + 1),k.keep [1,20,21,22] z,m.sl [0] z,h⟩
       refine wp_block (wr (pN 1 k z λa k=>oE h λAv As h=>sv k z (Qaj Ac As k Qte z z z) λa k=>?_));obtain ⟨Cd,Bx,Cb,Bf,Be,Bc⟩:=Qbo Ac (Qat As).2.2;obtain ⟨Bb,_,rfl,rfl,Ap⟩:=Bf;refine sv k z (Qbw Qw6 (Be.agr (m.a00 (Enc.rd_lt Ac)) Bc) z k z z) λa k=>Qan (cs:=[I 0,I 0,.slice none 0 0]) m k zeroValue53 z z z z z λBz Cj a k m e Bk=>pN 1 k z λa k=>sT (cs':=[I Av.fO,I Av.fE,Bb]) sizeOf53 m 0 Bk 0 k z (Qa9 z (Qa9 z (Qa9 (Qc7 Ap) Qqs))) λCg a k e m Aq=>nn (wr (fl Qcf Qsm m 1 Ad k z z λa k=>pN 1 k z λa k=>oE h λAo Au h=>sv k z (Qaj Al Au k Qua z z z) λa k=>sv k z (Qg6 Al (m.a00 (Enc.rd_lt Al)) Au Qvy k z z) λa k=>?_));refine Qan (cs:=[I 0,I 0,I 0,I 0]) m k zeroValue41 z z z z z λCk Ca a k m e Bl=>sT (cs':=[I Ao.fJ,I Ao.fX,I Ao.fY,I Ao.fZ]) sizeOf41 m 0 Bl 0 k z z λBw a k e m Am=>nn (wr (fl Qts t13 m 1 Aq k z z λa k=>oE h λAz Bn h=>cC k m call56 z (Qcs fu _ _ _  Bn) λCe e a k m=>pN 2 k z λa k=>Qal (!Az) (λAi=>?_) (λAi=>?_)))
       · have h:=Qau Ai h;refine rB k 36 z Ai λk=>pN 35 k z λa k=>?_;have k:=k.keep [1,20,21,22,71] z;refine nn (wp_cond_true (k.ev z) (wr (pN 1 k z λa k=>nn (wp_ret (Qaf (Qad (Qad (Qaf (Qad ?_)))))))));refine fS h k m z z
       have h:=Qas Ai h;refine rB k 36 z Ai λk=>fl Qtp t13 m 1 Aq k z z λa k=>oE h λBm Bo h=>cC k m call56 z (Qcs fu _ _ _  Bo) λCc e a k m=>pN 3 k z λa k=>Qal (!Bm) (λAj=>?_) (λAj=>?_)
       · have h:=Qau Aj h;refine rB k 42 z Aj λk=>pN 29 k z λa k=>?_;have k:=k.keep [1,20,21,22,71] z;refine nn (wp_cond_true (k.ev z) (wr (pN 1 k z λa k=>nn (wp_ret (Qaf (Qad (Qad (Qaf (Qad ?_)))))))));refine fS h k m z z
       have h:=Qas Aj h;refine rB k 42 z Aj λk=>fl Qix Qsh m 1 Aq k z z λa k=>oE h λBa Bp h=>cC k m call149 z (Qws fu _ (m.r Ap) Bp) λCh e a k m=>pN 3 k z λa k=>Qal (!Ba) (λAf=>?_) (λAf=>?_)
       · have h:=Qau Af h;refine rB k 48 z Af λk=>pN 23 k z λa k=>?_;have k:=k.keep [1,20,21,22,71] z;refine nn (wp_cond_true (k.ev z) (wr (pN 1 k z λa k=>nn (wp_ret (Qaf (Qad (Qad (Qaf (Qad ?_)))))))));refine fS h k m z z
       have h:=Qas Af h;refine rB k 48 z Af λk=>fl Qs0 t13 m 0 Am k z z λa k=>oE h λBr Bs h=>cC k m call150 z (Qdg fu _  Bs) λCl e a k m=>pN 3 k z λa k=>Qal (!Br) (λAk=>?_) (λAk=>?_)
       · have h:=Qau Ak h;refine rB k 54 z Ak λk=>pN 17 k z λa k=>?_;have k:=k.keep [1,20,21,22,71] z;refine nn (wp_cond_true (k.ev z) (wr (pN 1 k z λa k=>nn (wp_ret (Qaf (Qad (Qad (Qaf (Qad ?_)))))))));refine fS h k m z z
       have h:=Qas Ak h;refine rB k 54 z Ak λk=>fl Qtl t13 m 0 Am k z z λa k=>oE h λAx Bt h=>cC k m call150 z (Qdg fu _  Bt) λCm e a k m=>pN 3 k z λa k=>Qal (!Ax) (λAg=>?_) (λAg=>?_)
       · have h:=Qau Ag h;refine rB k 60 z Ag λk=>pN 11 k z λa k=>?_;have k:=k.keep [1,20,21,22,71] z;refine nn (wp_cond_true (k.ev z) (wr (pN 1 k z λa k=>nn (wp_ret (Qaf (Qad (Qad (Qaf (Qad ?_)))))))));refine fS h k m z z
       have h:=Qas Ag h;refine rB k 60 z Ag λk=>fl Quo t13 m 0 Am k z z λa k=>oE h λBi Bd h=>cC k m call150 z (Qdg fu _  Bd) λBy e a k m=>pN 3 k z λa k=>Qal (!Bi) (λAh=>?_) (λAh=>?_)
       · have h:=Qau Ah h;refine rB k 66 z Ah λk=>pN 5 k z λa k=>?_;have k:=k.keep [1,20,21,22,71] z;refine nn (wp_cond_true (k.ev z) (wr (pN 1 k z λa k=>nn (wp_ret (Qaf (Qad (Qad (Qaf (Qad ?_)))))))));refine fS h k m z z
       have h:=Qas Ah h;refine rB k 66 z Ah λk=>fl Qoe t13 m 0 Am k z z λa k=>oE h λBv Bh h=>cC k m call150 z (Qdg fu _  Bh) λCn e a k m=>pN 2 k z λa k=>?_;have k:=k.keep [1,20,21,22,71] z;refine nn (cI h k z (λBq h=>?_) λBq h=>?_)
       · refine wr (pN 1 k z λa k=>nn (wp_ret (Qaf (Qad (Qad (Qaf (Qad ?_)))))));refine fS h k m z z
       refine wp_skip (Qae (Qaa ?_));exact ⟨k.keep [1,20,21,22] z,m.sl [2] z,h⟩
     refine wp_exit (Qag (Qag (Qak (Qaa ?_))));refine wr (pN 1 k z λa k=>nn (wp_ret (fS h k m z z)))
   exact ⟨0,k.keep [1,20,21,22] z,m.sl [0] z,h⟩
 refine wr (fl Qcf Qsm m 0 Ad k z z λa k=>sv k z (Qav (α:=Spot) Al k underlying32 z z) λa k=>fl Qbl Qmt m 0 Ad k z z λa k=>sv k z (Qav (α:=Carton) Ac k underlying31 z z) λa k=>pN 2 k z λa k=>Qal ((x1.fU.length:Int) != (x1.fQ.length:Int)) (λAe=>?_) (λAe=>?_))
 · have h:=Qau Ae h;refine rB k 13 z Ae λk=>pN 5 k z λa k=>nn (wp_cond_true (k.ev z) (wr (pN 1 k z λa k=>nn (wp_ret (Qad ?_)))));refine fS h k m z z
 have h:=Qas Ae h;refine rB k 13 z Ae λk=>fl Qbl Qmt m 0 Ad k z z λa k=>sv k z (Qav (α:=Carton) Ac k underlying31 z z) λa k=>pN 2 k z λa k=>nn (cI h k z (λAw h=>?_) λAw h=>?_)
 · refine wr (pN 1 k z λa k=>nn (wp_ret (Qad ?_)));refine fS h k m z z
 refine wp_skip (Qaa ?_);exact ⟨k.keep [1] z,m.sl [0] z,h⟩
end Go.Proofs.YtpcmapfabndggaaGreat
