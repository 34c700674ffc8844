/- FnExactOneEach: the walks of functions that it reaches (ExactOneEachBWs,part 2). Printed by gen.py. -/
import Derived.Test.YtcboeijpplllfaaGreatExactOneEachBWs1
set_option maxRecDepth 20000
set_option linter.unusedSimpArgs false
set_option linter.unusedVariables false
set_option linter.unnecessarySimpa false
namespace Go.Proofs.YtcboeijpplllfaaGreat
open Go Go.RowKit
open Enc (rd ow)
open Arg (argv)
open Ret (retv)
open Go.Proofs.Tryz

theorem c_spec_l6Units (fu:Nat) {w0:World} (r1:Request) {As:List Value} {F3:List Nat} (Bh:rd w0 F3 As r1) {r:(List Int)}
    (h:d_spec_l6Units fu r1 = some r) :
    Calls Tryz.prog 66 #[.agg As.toArray] w0 fun e w=>∃ (v0:Value) (G0:List Nat),e = .returned (v0) ∧ Ext [] w0 w ∧ ow w G0 [v0] r ∧ (∀ b ∈ G0,w0.heap.size ≤ b):=by
 refine en (vs:=[_]) func66 z ntmps66 z fun a k m=>?_;obtain ⟨v5,F6,v7,F8,v9,Bl,rfl,rfl,Br,Bm,Af⟩:=Bh;unfold d_spec_l6Units at h;refine wr (s_box (cs:=(cR r1 v5 v7 v9)) m k z z z z z z fun Ae Am a k m e Ao=>pN 1 k z fun a k=>nn (wr (sB (cs:=[]) (ps:=[]) te29 m k z (by exact fN) fun Ap Bi Bk a k m e Aw=>?_)));have Be:=ow_bx Aw ([]:List Int) z z z;refine pN 1 k z fun a k=>nn (wp_seq (wr (pN 1 k z fun a k=>nn (wp_block (c_loop (fun n a w=>∃ (Ad:List Int) (Aj:Value) (Ab:List Nat) (Ac:World) (Aa:Int),K 29 [(1,pt Ae),(3,Aj),(4,I Aa)] a ∧ St [] w0 w [([Ae],Am),(Ab,Ac)] ∧ ow Ac Ab [Aj] Ad ∧ d_spec_l6Units_L2 fu r1 n Ad Aa = some r) ?_ ?_ fu _ _ ?_)))))
 · rintro a w ⟨_,_,_,_,_,_,_,_,h⟩;exact nS h
 · rintro Ay a Bj ⟨Ad,Aj,Ab,Ac,Aa,k,m,Aq,h⟩;rw [d_spec_l6Units_L2.eq_2] at h;unfold d_spec_l6Units_L2_B at h;refine wp_seq (wr (pN 1 k z fun a k=>fl fa40_6 t138 m 0 Ao k z z fun a k=>sv k z (r_len (α:=Item) Af k underlying38 z z) fun a k=>pN 1 k z fun a k=>nn (cI h k z (fun Bf h=>?_) fun Bf h=>?_)))
   · refine wp_skip (nm_then ?_);refine wp_seq (wp_block (wr (pN 1 k z fun a k=>nn (wp_block (c_loop (fun n a w=>∃ (Al:List Int) (Ai:Value) (Ak:List Nat) (Ag:World) (Ah:Int),K 29 [(1,pt Ae),(3,Ai),(4,I Aa),(5,I Ah)] a ∧ St [] w0 w [([Ae],Am),(Ak,Ag)] ∧ ow Ag Ak [Ai] Al ∧ d_spec_l6Units_L1 fu (d_spec_l6Units_L2 fu r1 Ay) r1 Aa n Al Ah = some r) ?_ ?_ fu _ _ ?_)))))
     · rintro a w ⟨_,_,_,_,_,_,_,_,h⟩;exact nS h
     · rintro Bp a Bn ⟨Al,Ai,Ak,Ag,Ah,k,m,Ar,h⟩;rw [d_spec_l6Units_L1.eq_2] at h;unfold d_spec_l6Units_L1_B at h;refine wp_seq (wr (pN 1 k z fun a k=>fl fa40_6 t138 m 0 Ao k z z fun a k=>pN 1 k z fun a k=>oE h fun Bs At h=>sv k z (r_ixa Af At k ts38 z z z) fun a k=>sv k z (r_fa fa83_6 k z z) fun a k=>sv k z (r_lde1 Af (m.a00 (Enc.rd_lt Af)) At 6 t13 k z z z z) fun a k=>pN 1 k z fun a k=>nn (cI h k z (fun Ba h=>?_) fun Ba h=>?_)))
       · refine wp_skip (nm_then ?_);refine wp_seq (wp_block (wp_region_lit (pN 2 k z fun a k=>sB (cs:=[I Aa]) (ps:=[(0,.tmp 25)]) te29 m k z (by exact fC z fN) fun Bt Bq Bo a k m e Au=>?_)));have Ax:=ow_bx Au ([Aa]:List Int) z z z;refine oE h fun Av Az h=>s_appF Az te29 z m 2 Ar (News.rd (m.q Ax 0 z)) z z k z z z z z z z fun Bc Bd Bg a k e m Bb=>pN 1 k z fun a k=>wpList_nil (nm_block (nm_then ?_));refine wp_region_lit (pN 3 k z fun a k=>nn ?_);exact ⟨Av,Bc,Bd,Bg,w64 (Ah + 1),k.keep [1,3,4,5] z,m.sl [1,2] z,Bb,h⟩
       refine wp_exit (ex_then (ex_then (ex_same (nm_block (nm_then ?_)))));refine wp_region_lit (pN 3 k z fun a k=>nn ?_);exact ⟨Al,Ai,Ak,Ag,w64 (Aa + 1),k.keep [1,3,4] z,m.sl [0,1] z,Ar,h⟩
     exact ⟨Ad,Aj,Ab,Ac,0,k.keep [1,3,4,5] z,m.sl [0,1] z,Aq,h⟩
   refine wp_exit (ex_then (ex_then (ex_same (nm_then ?_))));refine wr (pN 2 k z fun a k=>nn (wp_ret ?_));cases h;exact finR1 k z (RV.tmp k z) ⟨_,Ab,z,m.ext,(m.v Aq 1 z),(m.fresh 1 z)⟩
 exact ⟨([]:List Int),(.slice (some ⟨Ap,0,none⟩) 0 0),[Ap],Bi,0,k.keep [1,3,4] z,m.sl [1,0] z,Be,h⟩
theorem c_spec_Units (fu:Nat) {w0:World} (r1:Request) {Ag:List Value} {F3:List Nat} (Ap:rd w0 F3 Ag r1) {r:(List Int)}
    (h:d_spec_Units fu r1 = some r) :
    Calls Tryz.prog 41 #[.agg Ag.toArray] w0 fun e w=>∃ (v0:Value) (G0:List Nat),e = .returned (v0) ∧ Ext [] w0 w ∧ ow w G0 [v0] r ∧ (∀ b ∈ G0,w0.heap.size ≤ b):=by
 refine en (vs:=[_]) func41 z ntmps41 z fun a k m=>?_;obtain ⟨v5,F6,v7,F8,v9,Aw,rfl,rfl,Ac,Aa,Ab⟩:=Ap;unfold d_spec_Units at h;refine wr (s_box (cs:=(cR r1 v5 v7 v9)) m k z z z z z z fun Ax Aq a k m e Ae=>pN 1 k z fun a k=>nn (wp_seq (wr (sv k z (rL ta40 m 0 Ae 0 k z) fun a k=>oE h fun Az Am h=>cC k m call24 z (c_spec_Class fu _ (mkRequest (m.r Ac) (m.r Aa) (m.r Ab)) Am) fun At e a k m=>?_))));refine pN 1 k z fun a k=>nn (cI h k z (fun Aj h=>?_) fun Aj h=>?_)
 · refine wr (sB (cs:=[]) (ps:=[]) te29 m k z (by exact fN) fun Ah Ba Ar a k m e Al=>?_);have Ai:=ow_bx Al ([]:List Int) z z z;refine pN 1 k z fun a k=>nn (wp_ret (rt_then ?_));cases h;exact finR1 k z (RV.tmp k z) ⟨_,[Ah],z,m.ext,(m.v Ai 0 z),(m.fresh 0 z)⟩
 refine wp_skip (nm_then ?_);refine wr (sv k z (rL ta40 m 0 Ae 0 k z) fun a k=>oE h fun Ay Ao h=>sC k call66 z (c_spec_l6Units fu _ (mkRequest (m.r Ac) (m.r Aa) (m.r Ab)) Ao) fun As Au hR=>?_);obtain ⟨Av,Af,rfl,e,Ad,Ak⟩:=hR;refine ⟨_,z,fun a k=>?_⟩;have m:=m.nw e Ak Ad;refine pN 1 k z fun a k=>nn (wp_ret ?_);cases h;exact finR1 k z (RV.tmp k z) ⟨_,Af,z,m.ext,(m.v Ad 0 z),(m.fresh 0 z)⟩
theorem c_spec_OneEach (fu:Nat) {w0:World} (r1:Request) {Am:List Value} {F3:List Nat} (Bj:rd w0 F3 Am r1) {r:(List (List Int))}
    (h:d_spec_OneEach fu r1 = some r) :
    Calls Tryz.prog 13 #[.agg Am.toArray] w0 fun e w=>∃ (v0:Value) (G0:List Nat),e = .returned (v0) ∧ Ext [] w0 w ∧ ow w G0 [v0] r ∧ (∀ b ∈ G0,w0.heap.size ≤ b):=by
 refine en (vs:=[_]) func13 z ntmps13 z fun a k m=>?_;obtain ⟨v5,F6,v7,F8,v9,Bs,rfl,rfl,Al,Ai,Ak⟩:=Bj;unfold d_spec_OneEach at h;refine wr (s_box (cs:=(cR r1 v5 v7 v9)) m k z z z z z z fun Bu Bm a k m e Aq=>pN 1 k z fun a k=>nn (wr (sB (cs:=[]) (ps:=[]) te47 m k z (by exact fN) fun Aj Bl Bq a k m e As=>?_)));have Bd:=ow_bx0 (α:=List Int) As;refine pN 1 k z fun a k=>nn (wr (sv k z (rL ta40 m 1 Aq 0 k z) fun a k=>oE h fun At Bb h=>sC k call41 z (c_spec_Units fu _ (mkRequest (m.r Al) (m.r Ai) (m.r Ak)) Bb) fun Bp Bc hR=>?_));obtain ⟨Ar,Ao,rfl,e,Ae,Aw⟩:=hR;refine ⟨_,z,fun a k=>?_⟩;have m:=m.nw e Aw Ae;refine pN 1 k z fun a k=>nn (wp_seq (wr (pN 1 k z fun a k=>nn (wp_block (c_loop (fun n a w=>∃ (Ac:List (List Int)) (Af:Value) (Ab:List Nat) (Ad:World) (Aa:Int),K 21 [(3,Af),(4,Ar),(5,I Aa)] a ∧ St [] w0 w [(Ao,Bc),(Ab,Ad)] ∧ ow Ad Ab [Af] Ac ∧ d_spec_OneEach_L1 fu At n Ac Aa = some r) ?_ ?_ fu _ _ ?_)))))
 · rintro a w ⟨_,_,_,_,_,_,_,_,h⟩;exact nS h
 · rintro Bv a Bw ⟨Ac,Af,Ab,Ad,Aa,k,m,Ap,h⟩;rw [d_spec_OneEach_L1.eq_2] at h;unfold d_spec_OneEach_L1_B at h;refine wp_seq (wr (pN 2 k z fun a k=>sv k z (r_len (α:=Int) (Enc.ow_rd Ae) k underlying29 z z) fun a k=>pN 1 k z fun a k=>nn (cI h k z (fun Bk h=>?_) fun Bk h=>?_)))
   · refine wp_skip (nm_then ?_);refine wp_seq (wp_block (wp_region_lit (pN 2 k z fun a k=>sB (cs:=[I Aa]) (ps:=[(0,.tmp 16)]) te29 m k z (by exact fC z fN) fun Ah Bt Bx a k m e Ba=>?_)));have Ag:=ow_bx Ba ([Aa]:List Int) z z z;refine sB (cs:=[(.slice (some ⟨Ah,0,none⟩) 1 1)]) (ps:=[(0,.tmp 17)]) te47 m k z (by exact (List.forall_mem_cons.2 ⟨congrArg Array.size (rd_c (Enc.ow_rd Ag)),fN⟩)) fun Bn Br Bo a k m e Av=>oE h fun Bi Ay h=>?_;have Au:=Enc.ow_agr Ag (m.a 1 z);have Bf:=News.box Av (m.a 0 z) (by simp) (m:=1);have Bg:=m.a 3 z;have m:=m.sl [3,1,0,2] z;have m:=m.join2;refine s_appO (F:=Ab) (G:=[Ah]) Ay te47 z m Ap Bg Bf Au (Agr.refl _ _) k z z z z z z fun Be Bh Az a k e m Ax=>pN 1 k z fun a k=>wpList_nil (nm_block (nm_then ?_));refine wp_region_lit (pN 3 k z fun a k=>nn ?_);exact ⟨Bi,Be,Bh,Az,w64 (Aa + 1),k.keep [3,4,5] z,m.sl [2,0] z,Ax,h⟩
   refine wp_exit (ex_then (ex_then (ex_same (nm_then ?_))));refine wr (pN 2 k z fun a k=>nn (wp_ret ?_));cases h;exact finR1 k z (RV.tmp k z) ⟨_,Ab,z,m.ext,(m.v Ap 1 z),(m.fresh 1 z)⟩
 exact ⟨([]:List (List Int)),(.slice (some ⟨Aj,0,none⟩) 0 0),[Aj],Bl,0,k.keep [3,4,5] z,m.sl [0,1] z,Bd,h⟩

end Go.Proofs.YtcboeijpplllfaaGreat
