/- FnBothWays: the walks of functions that it reaches (BothWaysBWs,part 3). Printed by gen.py. -/
import Derived.Test.YtpcmapfabndggaaGreatBothWaysBWs2
set_option maxRecDepth 20000
set_option linter.unusedSimpArgs false
set_option linter.unusedVariables false
set_option linter.unnecessarySimpa false
namespace Go.Proofs.YtpcmapfabndggaaGreat
open Go Go.RowKit
open Enc (rd ow)
open Arg (argv)
open Ret (retv)
open Go.Proofs.Tryz

theorem c_spec_DrawClass (fu:Nat) {w0:World} (Ad:List U8) {v2:Value} {F3:List Nat} (Aa:rd w0 F3 [v2] Ad) {r:Request}
    (h:d_spec_DrawClass fu Ad = some r) :
    Calls Tryz.prog 33 #[v2] w0 fun e w=>∃ (Ap:List Value) (G0:List Nat),e = .returned (.agg Ap.toArray) ∧ Ext [] w0 w ∧ ow w G0 Ap r ∧ (∀ b ∈ G0,w0.heap.size ≤ b):=by
 refine en (vs:=[_]) func33 z ntmps33 z fun a k m=>?_;unfold d_spec_DrawClass at h;refine wr (s_alloc (cs:=[I 0,I 0,I 0,I 0,I 0,I 0,.slice none 0 0,.slice none 0 0,I 0,.slice none 0 0]) m k zeroValue30 z z z z z fun b5 w7 a k m e At=>nn (wr (pN 1 k z fun a k=>oE h fun x8 Bn h=>sC k call74 z (c_spec_l1New fu _ (m.r Aa) Bn) fun Cc By hR=>?_)));obtain ⟨Af,rfl,e,Ai,Bq⟩:=hR;refine ⟨_,z,fun a k=>?_⟩;have m:=m.new e [Af] (fun y hy=>⟨lo1 Bq y hy,Ai.lt1 y hy⟩) (by simp);refine pN 1 k z fun a k=>nn (wp_seq (wr (pN 1 k z fun a k=>oE h fun Ae Ay h=>sC k call75 z (c_spec_l1Once fu (((⟨Ad,x8.fi,x8.fh⟩:Cur)):Cur) _ (m.y Ai 0 z) (m.r Aa) (m.dis0 0 z (Enc.rd_lt Aa) (by simp)) Ay) fun Bv Bs hR=>?_)));obtain ⟨rfl,e,Aq⟩:=hR;refine ⟨_,z,fun a k=>?_⟩;have m:=m.mu 0 z e;refine nn (cI h k z (fun Bd h=>?_) fun Bd h=>?_)
 · refine wr (pN 1 k z fun a k=>oE h fun Ac Bi h=>sC k call95 z (c_spec_l5Good fu (((⟨Ad,Ae.2.fi,Ae.2.fh⟩:Cur)):Cur) (m.y Aq 0 z) (m.r Aa) (m.dis0 0 z (Enc.rd_lt Aa) (by simp)) Bi) fun Bz Ce hR=>?_);obtain ⟨Br,Bc,rfl,e,Ag,Ar,Cb⟩:=hR;refine ⟨_,z,fun a k=>?_⟩;have m:=m.mut 0 z e ([Af] ++ Bc) (fun b hb=>(List.mem_append.1 hb).elim (fun hb=>⟨.inl hb,e.lt1 (m.ltF 0 z) b hb⟩) (fun hb=>⟨.inr (Ar b hb),(Enc.rd_lt (Enc.ow_rd Ag)) b hb⟩)) (nd_new (m.ndF 0 z) (Enc.ow_nd Ag) (m.ltF 0 z) Ar);have m:=m.split2;have m:=m.toFront 1 z;obtain ⟨Ax,Bb,Bp,Bj,Bf,Bk,rfl,rfl,Aj,Ak,Au,_⟩:=Ag;have m:=m.split2;have m:=m.split2at1;refine sT (cs':=(cR Ac.1 Ax Bp Bf)) sizeOf30 m 4 At 0 k z (allc z (allc z (allc z (allc z (allc z (allc z (allc (rd_o (Enc.ow_rd Aj)) (allc (rd_o (Enc.ow_rd Ak)) (allc z (allc (rd_o (Enc.ow_rd Au)) alln)))))))))) fun Bt a k e m Bg=>nn (wp_ret (rt_then ?_));cases h
   exact finR1 k z (RV.cA k z ta30 (Bg.at (m.a 4 z) 0 10 z z z) z) ⟨_,_,z,m.ext,⟨_,Bb,_,Bj,_,Bk,z,z,(m.v Aj 0 z),(m.v Ak 1 z),(m.v Au 2 z),by simpa [fps] using (m.sl [0,1,2] z).nd⟩,(app_fresh (m.fresh 0 z) (app_fresh (m.fresh 1 z) (m.fresh 2 z)))⟩
 refine wp_skip (nm_then ?_);refine wr (pN 1 k z fun a k=>oE h fun Ab Bl h=>sC k call96 z (c_spec_l2Draw fu (((⟨Ad,Ae.2.fi,Ae.2.fh⟩:Cur)):Cur) (m.y Aq 0 z) (m.r Aa) (m.dis0 0 z (Enc.rd_lt Aa) (by simp)) Bl) fun Ca Bw hR=>?_);obtain ⟨Cd,Bo,rfl,e,Ah,As,Bu⟩:=hR;refine ⟨_,z,fun a k=>?_⟩;have m:=m.mut 0 z e ([Af] ++ Bo) (fun b hb=>(List.mem_append.1 hb).elim (fun hb=>⟨.inl hb,e.lt1 (m.ltF 0 z) b hb⟩) (fun hb=>⟨.inr (As b hb),(Enc.rd_lt (Enc.ow_rd Ah)) b hb⟩)) (nd_new (m.ndF 0 z) (Enc.ow_nd Ah) (m.ltF 0 z) As);have m:=m.split2;have m:=m.toFront 1 z;obtain ⟨Be,Bh,Aw,Ba,Bm,Az,rfl,rfl,Al,Am,Ao,_⟩:=Ah;have m:=m.split2;have m:=m.split2at1;refine sT (cs':=(cR Ab.1 Be Aw Bm)) sizeOf30 m 4 At 0 k z (allc z (allc z (allc z (allc z (allc z (allc z (allc (rd_o (Enc.ow_rd Al)) (allc (rd_o (Enc.ow_rd Am)) (allc z (allc (rd_o (Enc.ow_rd Ao)) alln)))))))))) fun Bx a k e m Av=>nn (wp_ret ?_);cases h
 exact finR1 k z (RV.cA k z ta30 (Av.at (m.a 4 z) 0 10 z z z) z) ⟨_,_,z,m.ext,⟨_,Bh,_,Ba,_,Az,z,z,(m.v Al 0 z),(m.v Am 1 z),(m.v Ao 2 z),by simpa [fps] using (m.sl [0,1,2] z).nd⟩,(app_fresh (m.fresh 0 z) (app_fresh (m.fresh 1 z) (m.fresh 2 z)))⟩
theorem c_spec_DrawPlanOf (fu:Nat) {w0:World} (Af:List U8) {v2:Value} {F3:List Nat} (Ad:rd w0 F3 [v2] Af) {r:Request}
    (h:d_spec_DrawPlanOf fu Af = some r) :
    Calls Tryz.prog 13 #[v2] w0 fun e w=>∃ (Ab:List Value) (G0:List Nat),e = .returned (.agg Ab.toArray) ∧ Ext [] w0 w ∧ ow w G0 Ab r ∧ (∀ b ∈ G0,w0.heap.size ≤ b):=by
 refine en (vs:=[_]) func13 z ntmps13 z fun a k m=>?_;unfold d_spec_DrawPlanOf at h;refine wr (s_alloc (cs:=[I 0,I 0,I 0,I 0,I 0,I 0,.slice none 0 0,.slice none 0 0,I 0,.slice none 0 0]) m k zeroValue30 z z z z z fun b5 w7 a k m e Ao=>nn (wr (pN 1 k z fun a k=>oE h fun x8 Ap h=>sC k call33 z (c_spec_DrawClass fu _ (m.r Ad) Ap) fun Aw Au hR=>?_)));obtain ⟨At,Ar,rfl,e,Aa,As⟩:=hR;refine ⟨_,z,fun a k=>?_⟩;have m:=m.nw e As Aa;obtain ⟨Al,Aj,Ah,Am,Ak,Aq,rfl,rfl,Ag,Ac,Ae,_⟩:=Aa;have m:=m.split2;have m:=m.split2at1;refine sT (cs':=(cR x8 Al Ah Ak)) sizeOf30 m 3 Ao 0 k z (allc z (allc z (allc z (allc z (allc z (allc z (allc (rd_o (Enc.ow_rd Ag)) (allc (rd_o (Enc.ow_rd Ac)) (allc z (allc (rd_o (Enc.ow_rd Ae)) alln)))))))))) fun Av a k e m Ai=>nn (wp_ret ?_);cases h;exact finR1 k z (RV.cA k z ta30 (Ai.at (m.a 3 z) 0 10 z z z) z) ⟨_,_,z,m.ext,⟨_,Aj,_,Am,_,Aq,z,z,(m.v Ag 0 z),(m.v Ac 1 z),(m.v Ae 2 z),by simpa [fps] using (m.sl [0,1,2] z).nd⟩,(app_fresh (m.fresh 0 z) (app_fresh (m.fresh 1 z) (m.fresh 2 z)))⟩

end Go.Proofs.YtpcmapfabndggaaGreat
