/- FnExactPack: the wal.. -/
import Derived.Test.YtpcmapfabndggaaGreatDoorExactPackBT
set_option maxRecDepth 20000
set_option linter.unusedSimpArgs false
set_option linter.unusedVariables false
set_option linter.unnecessarySimpa false
namespace Go.Proofs.YtpcmapfabndggaaGreatDoor
open Go Go.RowKit
open Enc (rd ow)
open Arg (argv)
open Ret (retv)
open Go.Proofs.Tryz
theorem Qwi (fu:Nat) {w0:World} (Ac:ByteArray) (Ab:Int)  {r:(List ByteArray)}
    (h:Qpz fu Ac Ab=some r) :
    Calls Tryz.prog 114 #[.string (Ac),.int .u8 (Ab)] w0 λe w=>∃ (v0:Value) (G0:List Nat),e=.returned (v0)∧Ext [] w0 w∧ow w G0 [v0] r∧(∀ b∈G0,w0.heap.size≤b):=by
 refine en (vs:=[_,_]) func114 z ntmps114 z λa k m=>?_;unfold Qpz at h;refine wr (pN 1 k z λa k=>nn (wr (sB (cs:=[]) (ps:=[]) Qy3 m k z (by exact fN) λg3 w4 e6 a k m e Ax=>?_)));have Bg:=Qbf Ax ([]:List ByteArray) z z z;refine pN 1 k z λa k=>nn (wr (pN 1 k z λa k=>nn (wp_seq (wr (pN 1 k z λa k=>nn (wp_block (Qas (λn a w=>∃ (Ak:List ByteArray) (Ai:Value) (Ae:List Nat) (Aj:World) (Ad:Int) (Aa:Int),K 35 [(0,.string (Ac)),(1,.int .u8 (Ab)),(5,Ai),(6,I Ad),(7,I Aa)] a∧St [] w0 w [(Ae,Aj)]∧ow Aj Ae [Ai] Ak∧Qgv fu Ac Ab n Ak Ad Aa=some r) ?_ ?_ fu _ _ ?_)))))))
 · rintro a w ⟨_,_,_,_,_,_,_,_,_,h⟩;exact nS h
 · rintro Aw a Bp ⟨Ak,Ai,Ae,Aj,Ad,Aa,k,m,Ao,h⟩;rw [Qgv.eq_2] at h;unfold Qnl at h;refine wp_seq (wr (pN 2 k z λa k=>sv k z (Qxu k underlying9 z z) λa k=>pN 1 k z λa k=>nn (cI h k z (λAs h=>?_) λAs h=>?_)))
   · refine wp_skip (Qaa ?_);refine Qcw (λa w=>∃ (Am:List ByteArray) (Af:Value) (Ah:List Nat) (Ag:World) (Al:Int),K 35 [(0,.string (Ac)),(1,.int .u8 (Ab)),(5,Af),(6,I Al),(7,I Aa)] a∧St [] w0 w [(Ah,Ag)]∧ow Ag Ah [Af] Am∧Qnd fu (Qgv fu Ac Ab Aw) Aa Am Al=some r) ?_ ?_
     · rintro a Bu ⟨Am,Af,Ah,Ag,Al,k,m,Bi,h⟩;unfold Qnd at h;refine wp_region_lit (pN 3 k z λa k=>nn ?_);exact ⟨Am,Af,Ah,Ag,Al,w64 (Aa+1),k.keep [0,1,5,6,7] z,m.sl [0] z,Bi,h⟩
     refine wp_block (wr (pN 2 k z λa k=>oE h λBx At h=>sv k z (Q72 At k underlying9 z z z) λa k=>pN 2 k z λa k=>nn (cI h k z (λAy h=>?_) λAy h=>?_)))
     · refine wr (pN 4 k z λa k=>oE h λAq Au h=>sv k z (Jbi Au k underlying9 z z z z) λa k=>sB (cs:=[.string (Aq)]) (ps:=[(0,.tmp 24)]) Qy3 m k z (by exact fC z fN) λBs By Bt a k m e Bk=>?_);have Bf:=Qbf Bk ([Aq]:List ByteArray) z z z;refine oE h λBh Bd h=>Qfh Bd Qy3 z m 1 Ao (News.rd (m.q Bf 0 z)) z z k z z z z z z z λBb Be Bl a k e m Bm=>pN 1 k z λa k=>nn (wp_region_lit (pN 3 k z λa k=>wpList_nil (Qaf (Qaa ?_))));exact ⟨Bh,Bb,Be,Bl,w64 (Aa+1),k.keep [0,1,5,6,7] z,m.sl [1] z,Bm,h⟩
     refine wp_skip (Qaf (Qaa ?_));exact ⟨Ak,Ai,Ae,Aj,Ad,k.keep [0,1,5,6,7] z,m.sl [0] z,Ao,h⟩
   refine wp_exit (Qae (Qae (Qak (Qaa ?_))));refine wr (pN 3 k z λa k=>oE h λAp Av h=>sv k z (Jft Av k underlying9 z z z) λa k=>sB (cs:=[.string (Ap)]) (ps:=[(0,.tmp 32)]) Qy3 m k z (by exact fC z fN) λBw Bv Bo a k m e Ba=>?_);have Bj:=Qbf Ba ([Ap]:List ByteArray) z z z;refine oE h λBq Ar h=>Qfh Ar Qy3 z m 1 Ao (News.rd (m.q Bj 0 z)) z z k z z z z z z z λBn Bc Br a k e m Az=>pN 1 k z λa k=>nn (wp_ret ?_);cases h;exact Qco k z (RV.tmp k z) ⟨_,Bc,z,m.ext,(m.v Az 1 z),(m.fresh 1 z)⟩
 exact ⟨([]:List ByteArray),(.slice (some ⟨g3,0,none⟩) 0 0),[g3],w4,0,0,k.keep [0,1,5,6,7] z,m.sl [0] z,Bg,h⟩
theorem Qzg (fu:Nat) {w0:World} (hT:Te Tryz.prog w0) (x1:ByteArray) {r:Int×Bool}
    (h:Qsp fu x1=some r) :
    Calls Tryz.prog 258 #[.string x1] w0 λe w=>∃ (v0:Value),e=.returned (.tuple #[I r.1,v0])∧Ext [] w0 w∧isErr v0 r.2 :=
  Jel (λs h1 v h2 w=>Tryz.strconv_Atoi_ok s h1 v h2 w) (λs h1 h2 tp p w hv=>(Tryz.strconv_Atoi_syntax_var s h1 h2 tp p w hv).mono λe w ⟨n,he,_,_,hb⟩=>⟨_,_,he,hb⟩) (λs h1 h2 tp p w hv=>(Tryz.strconv_Atoi_range_var s h1 h2 tp p w hv).mono λe w ⟨n,he,_,_,hb⟩=>⟨_,_,he,hb⟩) hT x1 h
theorem Qbb (fu:Nat) {w0:World} (n1:Int) (Ab:Int) (Ac:Int)  {r:Bool}
    (h:Qaz fu n1 Ab Ac=some r) :
    Calls Tryz.prog 42 #[I n1,I Ab,I Ac] w0 λe w=>e=.returned (.bool (r))∧Ext [] w0 w:=by
 refine en (vs:=[_,_,_]) func42 z ntmps42 z λa k m=>?_;unfold Qaz at h;refine wr (pN 1 k z λa k=>nn (wr (pN 4 k z λa k=>Qal (decide (n1≥Ab)) (λAa=>?_) (λAa=>?_))))
 · have h:=Qav Aa h;refine rB k 10 z Aa λk=>pN 5 k z λa k=>nn (wp_ret (fS h k m z z))
 have h:=Qaw Aa h;refine rB k 10 z Aa λk=>pN 5 k z λa k=>nn (wp_ret (fS h k m z z))
theorem Qzm (fu:Nat) {w0:World} (hT:Te Tryz.prog w0) (x1:Int) {r:ByteArray}
    (h:Qsh fu x1=some r) :
    Calls Tryz.prog 192 #[I x1] w0 λe w=>e=.returned (.string r)∧Ext [] w0 w :=
  Jeh (λn h0 h1 w ht=>Tryz.strconv_Itoa n h0 h1 w ht) hT.t x1 h
theorem Qvd (fu:Nat) {w0:World} (hT:Te Tryz.prog w0) (n1:Int)  {r:ByteArray}
    (h:Qnw fu n1=some r) :
    Calls Tryz.prog 109 #[I n1] w0 λe w=>e=.returned (.string (r))∧Ext [] w0 w:=by
 refine en (vs:=[_]) func109 z ntmps109 z λa k m=>?_;unfold Qnw at h;refine wr (pN 1 k z λa k=>nn (wr (pN 1 k z λa k=>oE h λx2 Aa h=>cC k m call192 z (Qzm fu (m.te hT) _  Aa) λw5 e a k m=>pN 1 k z λa k=>nn (wp_ret (fS h k m z z)))))
theorem Q1u (fu:Nat) {w0:World} (hT:Te Tryz.prog w0) (Ac:ByteArray)  {r:Int×Bool}
    (h:Qic fu Ac=some r) :
    Calls Tryz.prog 246 #[.string (Ac)] w0 λe w=>e=.returned (.tuple #[I r.1,.bool (r.2)])∧Ext [] w0 w:=by
 refine en (vs:=[_]) func246 z ntmps246 z λa k m=>?_;unfold Qic at h;refine wr (pN 2 k z λa k=>nn (wr (pN 1 k z λa k=>oE h λx2 Af h=>sC k call258 z (Qzg fu (m.te hT) _  Af) λe4 w5 hR=>?_)));obtain ⟨v6,rfl,e,Ad⟩:=hR;refine ⟨_,z,λa k=>?_⟩;have m:=m.step e;refine pN 5 k z λa k=>nn (Qcw (λa w=>K 25 [(4,I x2.1)] a∧St [] w0 w []∧Qpb fu x2=some r) ?_ ?_)
 · rintro a Al ⟨k,m,h⟩;unfold Qpb at h;refine wr (pN 3 k z λa k=>nn (wp_ret ?_));cases h;exact Qf6 k z (RV.tmp k z) (RV.tmp k z) ⟨z,m.ext⟩
 refine wr (pN 1 k z λa k=>sv k z (Jht Ad k (by kernel_rfl) z z z) λa k=>pN 1 k z λa k=>Qal (x2.2) (λAb=>?_) (λAb=>?_))
 · have h:=Qav Ab h;refine rB k 13 z Ab λk=>pN 10 k z λa k=>nn (wp_cond_true (k.ev z) (wr (pN 2 k z λa k=>nn (wp_ret (Qad ?_)))));cases h;exact Qf6 k z (RV.tmp k z) (RV.tmp k z) ⟨z,m.ext⟩
 have h:=Qaw Ab h;refine rB k 13 z Ab λk=>pN 1 k z λa k=>oE h λAh Ae h=>cC k m call42 z (Qbb fu _ _ _  Ae) λAm e a k m=>pN 3 k z λa k=>Qal (!Ah) (λAa=>?_) (λAa=>?_)
 · have h:=Qav Aa h;refine rB k 18 z Aa λk=>pN 5 k z λa k=>nn (wp_cond_true (k.ev z) (wr (pN 2 k z λa k=>nn (wp_ret (Qad ?_)))));cases h;exact Qf6 k z (RV.tmp k z) (RV.tmp k z) ⟨z,m.ext⟩
 have h:=Qaw Aa h;refine rB k 18 z Aa λk=>pN 1 k z λa k=>oE h λAk Ag h=>cC k m call109 z (Qvd fu (m.te hT) _  Ag) λAj e a k m=>pN 3 k z λa k=>nn (cI h k z (λAi h=>?_) λAi h=>?_)
 · refine wr (pN 2 k z λa k=>nn (wp_ret (Qad ?_)));cases h;exact Qf6 k z (RV.tmp k z) (RV.tmp k z) ⟨z,m.ext⟩
 refine wp_skip (Qaa ?_);exact ⟨k.keep [4] z,m.sl [] z,h⟩
theorem Qlu (fu:Nat) {w0:World} (hT:Te Tryz.prog w0) (Ar:ByteArray) (Ah:ByteArray) (Al:Int)  {r:(List Int)×Bool}
    (h:Qcd fu Ar Ah Al=some r) :
    Calls Tryz.prog 194 #[.string (Ar),.string (Ah),I Al] w0 λe w=>∃ (v0:Value) (G0:List Nat),e=.returned (.tuple #[v0,.bool (r.2)])∧Ext [] w0 w∧ow w G0 [v0] r.1∧(∀ b∈G0,w0.heap.size≤b):=by
 refine en (vs:=[_,_,_]) func194 z ntmps194 z λa k m=>?_;unfold Qcd at h;refine wr (pN 2 k z λa k=>nn (wr (pN 1 k z λa k=>oE h λx4 Bk h=>sC k call114 z (Qwi fu _ _  Bk) λe6 w7 hR=>?_)));obtain ⟨Bf,F8,rfl,e,Aa,Aw⟩:=hR;refine ⟨_,z,λa k=>?_⟩;have m:=m.nw e Aw Aa;refine pN 1 k z λa k=>nn (Qcw (λa w=>K 49 [(8,Bf)] a∧St [] w0 w [(F8,w7)]∧Qof fu x4=some r) ?_ ?_)
 · rintro a Bt ⟨k,m,h⟩;unfold Qof at h;refine wr (sB (cs:=[]) (ps:=[]) Qcc m k z (by exact fN) λAp Bh Br a k m e Bj=>?_);have Bl:=Qbf Bj ([]:List Int) z z z;refine pN 1 k z λa k=>nn (wp_seq (wr (pN 1 k z λa k=>oE h λAm Be h=>Q6n Aa Be k Qvh z z z z z z λAx a k Af=>sv k z (Qba (α:=ByteArray) (Enc.ow_rd Af) k underlying133 z z) λa k=>pN 1 k z λa k=>nn (wp_block (Qas (λn a w=>∃ (Ag:List Int) (Ae:Value) (Ad:List Nat) (Ai:World) (Ac:Int),K 49 [(9,Ae),(30,Ax),(31,I (Am.length:Int)),(32,I Ac)] a∧St [] w0 w [(F8,w7),(Ad,Ai)]∧ow Ai Ad [Ae] Ag∧Qe9 fu Am n Ag Ac=some r) ?_ ?_ fu _ _ ?_)))))
   · rintro a w ⟨_,_,_,_,_,_,_,_,h⟩;exact nS h
   · rintro Bn a Bo ⟨Ag,Ae,Ad,Ai,Ac,k,m,Aq,h⟩;rw [Qe9.eq_2] at h;unfold Qjy at h;refine wr (pN 1 k z λa k=>nn (wp_seq (cI h k z (λBg h=>?_) λBg h=>?_)))
     · refine wp_skip (Qaa ?_);refine wp_seq (wp_block (wr (oE h λBq Aj h=>sv k z (Qai (Enc.ow_rd Af) Aj k Qvh z z z) λa k=>sv k z (Qaj (Enc.ow_rd Af) (m.a 0 z) Aj 0 t19 k z z z z) λa k=>pN 1 k z λa k=>nn (wr (pN 1 k z λa k=>oE h λAo As h=>cC k m call246 z (Q1u fu (m.te hT) _  As) λBs e a k m=>pN 5 k z λa k=>nn (wp_seq (wr (pN 2 k z λa k=>nn (cI h k z (λBm h=>?_) λBm h=>?_)))))))))
       · refine wr (pN 2 k z λa k=>nn (wp_ret (Qad (Qag (Qad (Qad (Qag (Qad ?_))))))));cases h;exact Qf6 k z (RV.tmp k z) (RV.tmp k z) ⟨_,[],z,m.ext,(Qbr _),(by simp)⟩
       refine wp_skip (Qaa ?_);refine wp_region_lit (pN 2 k z λa k=>sB (cs:=[I Ao.1]) (ps:=[(0,.tmp 44)]) Qcc m k z (by exact fC z fN) λBu Bp Bv a k m e Bc=>?_);have Ba:=Qbf Bc ([Ao.1]:List Int) z z z;refine oE h λAy Au h=>Qfh Au Qcc z m 2 Aq (News.rd (m.q Ba 0 z)) z z k z z z z z z z λBb Bi Az a k e m Bd=>pN 1 k z λa k=>wpList_nil (Qaf (Qaa ?_));refine wp_region_lit (pN 2 k z λa k=>nn ?_);exact ⟨Ay,Bb,Bi,Az,w64 (Ac+1),k.keep [9,30,31,32] z,m.sl [1,2] z,Bd,h⟩
     refine wp_exit (Qae (Qae (Qak (Qaa ?_))));refine wr (pN 3 k z λa k=>nn (wp_ret ?_));cases h;exact Qf6 k z (RV.tmp k z) (RV.tmp k z) ⟨_,Ad,z,m.ext,(m.v Aq 1 z),(m.fresh 1 z)⟩
   exact ⟨([]:List Int),(.slice (some ⟨Ap,0,none⟩) 0 0),[Ap],Bh,0,k.keep [9,30,31,32] z,m.sl [1,0] z,Bl,h⟩
 refine wr (pN 1 k z λa k=>oE h λAt Ak h=>sv k z (Qai (Enc.ow_rd Aa) Ak k Qvh z z z) λa k=>sv k z (Qaj (Enc.ow_rd Aa) (m.a 0 z) Ak 0 t19 k z z z z) λa k=>pN 3 k z λa k=>Qal (!(At.toList==Ah.toList)) (λAb=>?_) (λAb=>?_))
 · have h:=Qav Ab h;refine rB k 21 z Ab λk=>pN 6 k z λa k=>nn (wp_cond_true (k.ev z) (wr (pN 2 k z λa k=>nn (wp_ret (Qad ?_)))));cases h;exact Qf6 k z (RV.tmp k z) (RV.tmp k z) ⟨_,[],z,m.ext,(Qbr _),(by simp)⟩
 have h:=Qaw Ab h;refine rB k 21 z Ab λk=>pN 1 k z λa k=>sv k z (Qba (α:=ByteArray) (Enc.ow_rd Aa) k underlying133 z z) λa k=>pN 4 k z λa k=>nn (cI h k z (λAv h=>?_) λAv h=>?_)
 · refine wr (pN 2 k z λa k=>nn (wp_ret (Qad ?_)));cases h;exact Qf6 k z (RV.tmp k z) (RV.tmp k z) ⟨_,[],z,m.ext,(Qbr _),(by simp)⟩
 refine wp_skip (Qaa ?_);exact ⟨k.keep [8] z,m.sl [0] z,h⟩
theorem Qzd (fu:Nat) {w0:World} (r1:Request) (Cl:ByteArray) {F2:List Nat} {b3:Nat} (De:obx w0 F2 b3 r1 30) (hT:∀ w1,Ext F2 w0 w1→Te Tryz.prog w1) {r:Int×Request}
    (h:Qov fu r1 Cl=some r) :
    Calls Tryz.prog 115 #[.pointer (some ⟨b3,0,none⟩),.string (Cl)] w0 λe w=>∃ (H0:List Nat),e=.returned (I r.1)∧Ext F2 w0 w∧(∀ b∈H0,b∈F2∨w0.heap.size≤b)∧obx w H0 b3 r.2 30:=by
 refine enter (vs:=[_,_]) func115 z ntmps115 z λa k=>?_;obtain ⟨v6,F7,v9,Ae,Aj,Ad,Aa,Af,Ah,Ag,m⟩:=De.start;unfold Qov at h;refine wr (pN 1 k z λa k=>nn (wp_seq (wr (pN 1 k z λa k=>nn (wp_block (wr (pN 2 k z λa k=>nn (cI h k z (λEr h=>?_) λEr h=>?_))))))))
 · refine wr (pN 1 k z λa k=>sv k z (Qlm k z z) λa k=>sv k z (Ql2 Qx3 k z z) λa k=>sT (cs':=[I 0,I r1.fJ.fW,I r1.fJ.fD,I r1.fJ.fH,I r1.fJ.fQ,I r1.fU,v6,v9,I r1.fT,Aj]) sizeOf3 m 0 Aa 0 k z z λId a k e m Dg=>nn (wr (pN 1 k z λa k=>nn (wp_ret (Qag (Qad ?_))))));cases h;exact Qco k z (RV.tmp k z) ⟨([b3]++(F7++(Ae++Ad))),z,m.ext,(λb hb=>(m.sl [0,1,2,3] z).lo b (by simpa [fps] using hb)),(obx.fin (x:=(⟨0,r1.fJ,r1.fU,r1.fR,r1.fG,r1.fT,r1.fV⟩:Request)) (m.y Dg 0 z) (m.v Af 1 z) (m.v Ah 2 z) (m.v Ag 3 z) (by simpa [fps] using (m.sl [0,1,2,3] z).nd))⟩
 refine wr (pN 2 k z λa k=>nn (cI h k z (λEc h=>?_) λEc h=>?_))
 · refine wr (pN 1 k z λa k=>sv k z (Qlm k z z) λa k=>sv k z (Ql2 Qx3 k z z) λa k=>sT (cs':=[I 1,I r1.fJ.fW,I r1.fJ.fD,I r1.fJ.fH,I r1.fJ.fQ,I r1.fU,v6,v9,I r1.fT,Aj]) sizeOf3 m 0 Aa 0 k z z λGk a k e m En=>nn (wr (pN 1 k z λa k=>nn (wp_ret (Qag (Qad ?_))))));cases h;exact Qco k z (RV.tmp k z) ⟨([b3]++(F7++(Ae++Ad))),z,m.ext,(λb hb=>(m.sl [0,1,2,3] z).lo b (by simpa [fps] using hb)),(obx.fin (x:=(⟨1,r1.fJ,r1.fU,r1.fR,r1.fG,r1.fT,r1.fV⟩:Request)) (m.y En 0 z) (m.v Af 1 z) (m.v Ah 2 z) (m.v Ag 3 z) (by simpa [fps] using (m.sl [0,1,2,3] z).nd))⟩
 refine wp_skip (Qaf (Qaa ?_));refine wp_seq (wr (pN 1 k z λa k=>oE h λGt Fh h=>sC k call194 z (Qlu fu (hT _ m.ext) _ _ _  Fh) λHk Ia hR=>?_));obtain ⟨Ge,Fu,rfl,e,Ai,Dd⟩:=hR;refine ⟨_,z,λa k=>?_⟩;have m:=m.nw e Dd Ai;refine pN 5 k z λa k=>nn (wr (pN 1 k z λa k=>nn (cI h k z (λDl h=>?_) λDl h=>?_)))
 · refine wp_seq (Qjb ([b3]) Qi5 m z λFk hMd=>?_);have m:=hMd;have s:=Ext.refl (([b3]):List Nat) Fk;refine dM [0,1,4,7,10] 5 z k z s λa k=>oE h λBe Cg h=>dT k 2 z z s (λw s=>Qai (Enc.ow_rd Ai) Cg k Qdp z z z) λa k=>dT k 3 z z s (λw s=>Qaj (Enc.ow_rd Ai) (hMd.az 0 1 z z z s) Cg 0 t13 k z z z z) λa k=>oE h λBn Co h=>dT k 5 z z s (λw s=>Qai (Enc.ow_rd Ai) Co k Qdp z z z) λa k=>dT k 6 z z s (λw s=>Qaj (Enc.ow_rd Ai) (hMd.az 0 1 z z z s) Co 0 t13 k z z z z) λa k=>oE h λBi Cr h=>dT k 8 z z s (λw s=>Qai (Enc.ow_rd Ai) Cr k Qdp z z z) λa k=>?_;refine dT k 9 z z s (λw s=>Qaj (Enc.ow_rd Ai) (hMd.az 0 1 z z z s) Cr 0 t13 k z z z z) λa k=>oE h λBg Ce h=>dT k 11 z z s (λw s=>Qai (Enc.ow_rd Ai) Ce k Qdp z z z) λa k=>dT k 12 z z s (λw s=>Qaj (Enc.ow_rd Ai) (hMd.az 0 1 z z z s) Ce 0 t13 k z z z z) λa k=>dT k 13 z z s (λw s=>Qa8 Jhz k (cs:=#[I Be,I Bn,I Bi,I Bg]) (ps:=[(0,.tmp 37),(1,.tmp 40),(2,.tmp 43),(3,.tmp 46)]) z z (by kernel_rfl)) λa k=>dT k 14 z z s (λw s=>Qlm k z z) λa k=>?_
   refine dF k 15 Qtx z s λa k=>dO 16 z (sT (cs':=[I r1.ff,I Be,I Bn,I Bi,I Bg,I r1.fU,v6,v9,I r1.fT,Aj]) sizeOf25 m 1 Aa 1 k z z λHt a k e m Fl=>?_);have s:=s.trans e (λy hy=>Or.inl hy);refine wpList_nil ⟨s,?_⟩;refine dD ?_;have k:=k.keep [] z;refine (Qaa ?_);refine wr (pN 1 k z λa k=>nn (wp_ret (Qad ?_)));cases h;exact Qco k z (RV.tmp k z) ⟨([b3]++(F7++(Ae++Ad))),z,m.ext,(λb hb=>(m.sl [1,2,3,4] z).lo b (by simpa [fps] using hb)),(obx.fin (x:=(⟨r1.ff,(⟨Be,Bn,Bi,Bg⟩:Pallet),r1.fU,r1.fR,r1.fG,r1.fT,r1.fV⟩:Request)) (m.y Fl 1 z) (m.v Af 2 z) (m.v Ah 3 z) (m.v Ag 4 z) (by simpa [fps] using (m.sl [1,2,3,4] z).nd))⟩
 refine wp_skip (Qaa ?_);refine wp_seq (wr (pN 1 k z λa k=>oE h λGd Dt h=>sC k call194 z (Qlu fu (hT _ m.ext) _ _ _  Dt) λIg If hR=>?_));obtain ⟨Hl,Fe,rfl,e,Bc,Ei⟩:=hR;refine ⟨_,z,λa k=>?_⟩;have m:=m.nw e Ei Bc;refine pN 5 k z λa k=>nn (wr (pN 1 k z λa k=>nn (cI h k z (λDi h=>?_) λDi h=>?_)))
 · refine wr (pN 2 k z λa k=>oE h λCi Bz h=>sv k z (Qai (Enc.ow_rd Bc) Bz k Qdp z z z) λa k=>sv k z (Qaj (Enc.ow_rd Bc) (m.a 0 z) Bz 0 t13 k z z z z) λa k=>sv k z (Qlm k z z) λa k=>sv k z (Ql2 Qtc k z z) λa k=>sT (cs':=[I r1.ff,I r1.fJ.fW,I r1.fJ.fD,I r1.fJ.fH,I r1.fJ.fQ,I Ci,v6,v9,I r1.fT,Aj]) sizeOf3 m 2 Aa 5 k z z λGz a k e m Eb=>?_);have k:=k.keep [] z;refine nn (wr (pN 1 k z λa k=>nn (wp_ret (Qad ?_))));cases h;exact Qco k z (RV.tmp k z) ⟨([b3]++(F7++(Ae++Ad))),z,m.ext,(λb hb=>(m.sl [2,3,4,5] z).lo b (by simpa [fps] using hb)),(obx.fin (x:=(⟨r1.ff,r1.fJ,Ci,r1.fR,r1.fG,r1.fT,r1.fV⟩:Request)) (m.y Eb 2 z) (m.v Af 3 z) (m.v Ah 4 z) (m.v Ag 5 z) (by simpa [fps] using (m.sl [2,3,4,5] z).nd))⟩
 refine wp_skip (Qaa ?_);refine wp_seq (wr (pN 1 k z λa k=>oE h λIw Fr h=>sC k call194 z (Qlu fu (hT _ m.ext) _ _ _  Fr) λGp Gb hR=>?_));obtain ⟨Ip,Dp,rfl,e,Ak,Fn⟩:=hR;refine ⟨_,z,λa k=>?_⟩;have m:=m.nw e Fn Ak;refine pN 5 k z λa k=>?_;have k:=k.keep [1,0,9,10] z;refine nn (wr (pN 1 k z λa k=>nn (cI h k z (λEl h=>?_) λEl h=>?_)))
 · refine wp_seq (Qjb (F7++([b3])) Qi5 m z λDa hMd=>?_);have m:=hMd;have s:=Ext.refl ((F7++([b3])):List Nat) Da;have hMj:=(hMd.sel [4,3,0,1,2,5,6] z (by decide)).join2;refine dM [0,1,5,8] 4 z k z s λa k=>dT k 2 z z s (λw s=>Qlm k z z) λa k=>dF k 3 Qpx z s λa k=>oE h λAp Bu h=>dT k 6 z z s (λw s=>Qai (Enc.ow_rd Ak) Bu k Qdp z z z) λa k=>dT k 7 z z s (λw s=>Qaj (Enc.ow_rd Ak) (hMj.az 1 0 z z z s) Bu 0 t13 k z z z z) λa k=>oE h λAu Bp h=>dT k 9 z z s (λw s=>Qai (Enc.ow_rd Ak) Bp k Qdp z z z) λa k=>?_;refine dT k 10 z z s (λw s=>Qaj (Enc.ow_rd Ak) (hMj.az 1 0 z z z s) Bp 0 t13 k z z z z) λa k=>dT k 11 z z s (λw s=>Qa8 Jbh k (cs:=#[I Ap,I Au]) (ps:=[(0,.tmp 75),(1,.tmp 78)]) z z (by kernel_rfl)) λa k=>Qmy 4 12 (by kernel_rfl) z z ?_ ?_
   · refine sv k z (Qq9 Q1d m 3 Aa 6 k z z z z z) λa k=>wpList_nil ⟨s,?_⟩;refine dO 12 z (Qfb (cs:=[I Ap,I Au]) (ps:=[(0,.tmp 79)]) Ja2 m k z z z z z z z (by decide) z (by exact fC z fN) λIj Hc Gc a k m e Ee Db=>?_);have Iu:=lo1 (Nat.le_trans s.size Db);have Dr:=Qbf Ee ([(⟨Ap,Au⟩:Pair)]:List Pair) z z z;refine ns s e λs=>?_;refine dO 13 z (oE h λEh Ep h=>Qbc Ep Ja2 z m 5 Af (News.rd (m.q Dr 0 z)) z z k z z z z z z z λFc Ck Gm a k e m Bl Dw=>?_);have Hz:∀ y∈Ck,y∈(F7++([b3]))∨_≤y:=λy hy=>(Dw y hy).elim (λhy=>(λy hy=>Or.inl (List.mem_append_left _ hy)) y hy) (λh=>Or.inr (Nat.le_trans s.size h));have s:=s.trans e (λy hy=>Or.inl (List.mem_append_left _ hy));refine wpList_nil ⟨s,?_⟩;refine dT k 14 z z s (λw s=>Qlm k z z) λa k=>dF k 15 Qpx z s λa k=>dO 16 z (Qsf (cs':=(cR r1 Fc v9 Aj)) sizeOf26 m 4 Aa 6 k (Qrm (Enc.ow_rd Bl)) (Qlw (Enc.ow_rd Bl)) z z z z z z z z z λIt a k e m Dm=>?_);have s:=s.trans e (λy hy=>Or.inl (List.mem_append_right _ hy));refine wpList_nil ⟨s,?_⟩;refine dD ((Qaa ?_))
     refine wr (pN 1 k z λa k=>nn (wp_ret (Qad ?_)));cases h;exact Qco k z (RV.tmp k z) ⟨([b3]++(Ck++(Ae++Ad))),z,m.ext,(λb hb=>(m.sl [4,5,6,7] z).lo b (by simpa [fps] using hb)),(obx.fin (x:=(⟨r1.ff,r1.fJ,r1.fU,Eh,r1.fG,r1.fT,r1.fV⟩:Request)) (m.y Dm 4 z) (m.v Bl 5 z) (m.v Ah 6 z) (m.v Ag 7 z) (by simpa [fps] using (m.sl [4,5,6,7] z).nd))⟩
   refine Qfb (cs:=[I Ap,I Au]) (ps:=[(0,.tmp 79)]) Ja2 m k z z z z z z z (by decide) z (by exact fC z fN) λIv Ik Gw a k m e Eu Dh=>?_;have Gf:=lo1 (Nat.le_trans s.size Dh);have Fs:=Qbf Eu ([(⟨Ap,Au⟩:Pair)]:List Pair) z z z;refine ns s e λs=>?_;refine dO 4 z (sv k z (Qq9 Q1d m 4 Aa 6 k z z z z z) λa k=>wpList_nil ⟨s,?_⟩);refine dO 13 z (oE h λEf Ew h=>Qbc Ew Ja2 z m 5 Af (News.rd (m.q Fs 0 z)) z z k z z z z z z z λDf Cj Gh a k e m Bf Fv=>?_);have Hf:∀ y∈Cj,y∈(F7++([b3]))∨_≤y:=λy hy=>(Fv y hy).elim (λhy=>(λy hy=>Or.inl (List.mem_append_left _ hy)) y hy) (λh=>Or.inr (Nat.le_trans s.size h));have s:=s.trans e (λy hy=>Or.inl (List.mem_append_left _ hy));refine wpList_nil ⟨s,?_⟩;refine dT k 14 z z s (λw s=>Qlm k z z) λa k=>dF k 15 Qpx z s λa k=>dO 16 z (Qsf (cs':=(cR r1 Df v9 Aj)) sizeOf26 m 4 Aa 6 k (Qrm (Enc.ow_rd Bf)) (Qlw (Enc.ow_rd Bf)) z z z z z z z z z λHi a k e m Fy=>?_);have s:=s.trans e (λy hy=>Or.inl (List.mem_append_right _ hy));refine wpList_nil ⟨s,?_⟩;refine dD ((Qaa ?_))
   refine wr (pN 1 k z λa k=>nn (wp_ret (Qad ?_)));cases h;exact Qco k z (RV.tmp k z) ⟨([b3]++(Cj++(Ae++Ad))),z,m.ext,(λb hb=>(m.sl [4,5,6,7] z).lo b (by simpa [fps] using hb)),(obx.fin (x:=(⟨r1.ff,r1.fJ,r1.fU,Ef,r1.fG,r1.fT,r1.fV⟩:Request)) (m.y Fy 4 z) (m.v Bf 5 z) (m.v Ah 6 z) (m.v Ag 7 z) (by simpa [fps] using (m.sl [4,5,6,7] z).nd))⟩
 refine wp_skip (Qaa ?_);refine wp_seq (wr (pN 1 k z λa k=>oE h λHy Ff h=>sC k call194 z (Qlu fu (hT _ m.ext) _ _ _  Ff) λGv Gg hR=>?_));obtain ⟨Il,Dk,rfl,e,Ab,Ez⟩:=hR;refine ⟨_,z,λa k=>?_⟩;have m:=m.nw e Ez Ab;refine pN 5 k z λa k=>nn (wr (pN 1 k z λa k=>nn (cI h k z (λCw h=>?_) λCw h=>?_)))
 · refine wp_seq (Qjb (Ae++([b3])) Qi5 m z λFz hMd=>?_);have m:=hMd;have s:=Ext.refl ((Ae++([b3])):List Nat) Fz;have hMj:=(hMd.sel [6,4,0,1,2,3,5,7] z (by decide)).join2;refine dM [0,1,5,8,11,14,17,20,23] 9 z k z s λa k=>dT k 2 z z s (λw s=>Qlm k z z) λa k=>dF k 3 Qhs z s λa k=>oE h λAv Bq h=>dT k 6 z z s (λw s=>Qai (Enc.ow_rd Ab) Bq k Qdp z z z) λa k=>dT k 7 z z s (λw s=>Qaj (Enc.ow_rd Ab) (hMj.az 1 0 z z z s) Bq 0 t13 k z z z z) λa k=>oE h λBa Cc h=>dT k 9 z z s (λw s=>Qai (Enc.ow_rd Ab) Cc k Qdp z z z) λa k=>?_;refine dT k 10 z z s (λw s=>Qaj (Enc.ow_rd Ab) (hMj.az 1 0 z z z s) Cc 0 t13 k z z z z) λa k=>oE h λAx Ch h=>dT k 12 z z s (λw s=>Qai (Enc.ow_rd Ab) Ch k Qdp z z z) λa k=>dT k 13 z z s (λw s=>Qaj (Enc.ow_rd Ab) (hMj.az 1 0 z z z s) Ch 0 t13 k z z z z) λa k=>oE h λAz Cp h=>dT k 15 z z s (λw s=>Qai (Enc.ow_rd Ab) Cp k Qdp z z z) λa k=>dT k 16 z z s (λw s=>Qaj (Enc.ow_rd Ab) (hMj.az 1 0 z z z s) Cp 0 t13 k z z z z) λa k=>oE h λAr Cm h=>?_
   refine dT k 18 z z s (λw s=>Qai (Enc.ow_rd Ab) Cm k Qdp z z z) λa k=>dT k 19 z z s (λw s=>Qaj (Enc.ow_rd Ab) (hMj.az 1 0 z z z s) Cm 0 t13 k z z z z) λa k=>oE h λAo Bw h=>dT k 21 z z s (λw s=>Qai (Enc.ow_rd Ab) Bw k Qdp z z z) λa k=>dT k 22 z z s (λw s=>Qaj (Enc.ow_rd Ab) (hMj.az 1 0 z z z s) Bw 0 t13 k z z z z) λa k=>oE h λAt Cb h=>dT k 24 z z s (λw s=>Qai (Enc.ow_rd Ab) Cb k Qdp z z z) λa k=>?_;refine dT k 25 z z s (λw s=>Qaj (Enc.ow_rd Ab) (hMj.az 1 0 z z z s) Cb 0 t13 k z z z z) λa k=>dT k 26 z z s (λw s=>Qa8 Jcd k (cs:=#[I Av,I Ba,I Ax,I Az,I Ar,I Ao,I At]) (ps:=[(0,.tmp 97),(1,.tmp 100),(2,.tmp 103),(3,.tmp 106),(4,.tmp 109),(5,.tmp 112),(6,.tmp 115)]) z z (by kernel_rfl)) λa k=>Qmy 4 27 (by kernel_rfl) z z ?_ ?_
   · refine sv k z (Qq9 Qve m 4 Aa 7 k z z z z z) λa k=>wpList_nil ⟨s,?_⟩;refine dO 27 z (Qfb (cs:=[I Av,I Ba,I Ax,I Az,I Ar,I Ao,I At]) (ps:=[(0,.tmp 116)]) Jag m k z z z z z z z (by decide) z (by exact fC z fN) λIc Hx Iq a k m e Fg Fj=>?_);have Hp:=lo1 (Nat.le_trans s.size Fj);have Et:=Qbf Fg ([(⟨Av,Ba,Ax,Az,Ar,Ao,At⟩:Typ)]:List Typ) z z z;refine ns s e λs=>?_;refine dO 28 z (oE h λDs Ey h=>Qbc Ey Jag z m 7 Ah (News.rd (m.q Et 0 z)) z z k z z z z z z z λEk Bt He a k e m Bh Fw=>?_);have Ih:∀ y∈Bt,y∈(Ae++([b3]))∨_≤y:=λy hy=>(Fw y hy).elim (λhy=>(λy hy=>Or.inl (List.mem_append_left _ hy)) y hy) (λh=>Or.inr (Nat.le_trans s.size h));have s:=s.trans e (λy hy=>Or.inl (List.mem_append_left _ hy));refine wpList_nil ⟨s,?_⟩;refine dT k 29 z z s (λw s=>Qlm k z z) λa k=>dF k 30 Qhs z s λa k=>dO 31 z (Qsf (cs':=(cR r1 v6 Ek Aj)) sizeOf27 m 5 Aa 7 k (Qrm (Enc.ow_rd Bh)) (Qlw (Enc.ow_rd Bh)) z z z z z z z z z λGy a k e m Ex=>?_);have s:=s.trans e (λy hy=>Or.inl (List.mem_append_right _ hy));refine wpList_nil ⟨s,?_⟩
     refine dD ?_;have k:=k.keep [] z;refine (Qaa ?_);refine wr (pN 1 k z λa k=>nn (wp_ret (Qad ?_)));cases h;exact Qco k z (RV.tmp k z) ⟨([b3]++(F7++(Bt++Ad))),z,m.ext,(λb hb=>(m.sl [5,6,7,8] z).lo b (by simpa [fps] using hb)),(obx.fin (x:=(⟨r1.ff,r1.fJ,r1.fU,r1.fR,Ds,r1.fT,r1.fV⟩:Request)) (m.y Ex 5 z) (m.v Af 6 z) (m.v Bh 7 z) (m.v Ag 8 z) (by simpa [fps] using (m.sl [5,6,7,8] z).nd))⟩
   refine Qfb (cs:=[I Av,I Ba,I Ax,I Az,I Ar,I Ao,I At]) (ps:=[(0,.tmp 116)]) Jag m k z z z z z z z (by decide) z (by exact fC z fN) λHu Hj Ie a k m e Fi Dj=>?_;have Im:=lo1 (Nat.le_trans s.size Dj);have Fa:=Qbf Fi ([(⟨Av,Ba,Ax,Az,Ar,Ao,At⟩:Typ)]:List Typ) z z z;refine ns s e λs=>?_;refine dO 4 z (sv k z (Qq9 Qve m 5 Aa 7 k z z z z z) λa k=>wpList_nil ⟨s,?_⟩);refine dO 28 z (oE h λCv Dq h=>Qbc Dq Jag z m 7 Ah (News.rd (m.q Fa 0 z)) z z k z z z z z z z λDc Bo Gx a k e m Bk Cz=>?_);have Gr:∀ y∈Bo,y∈(Ae++([b3]))∨_≤y:=λy hy=>(Cz y hy).elim (λhy=>(λy hy=>Or.inl (List.mem_append_left _ hy)) y hy) (λh=>Or.inr (Nat.le_trans s.size h));have s:=s.trans e (λy hy=>Or.inl (List.mem_append_left _ hy));refine wpList_nil ⟨s,?_⟩;refine dT k 29 z z s (λw s=>Qlm k z z) λa k=>dF k 30 Qhs z s λa k=>dO 31 z (Qsf (cs':=(cR r1 v6 Dc Aj)) sizeOf27 m 5 Aa 7 k (Qrm (Enc.ow_rd Bk)) (Qlw (Enc.ow_rd Bk)) z z z z z z z z z λGi a k e m Fq=>?_);have s:=s.trans e (λy hy=>Or.inl (List.mem_append_right _ hy));refine wpList_nil ⟨s,?_⟩
   refine dD ?_;have k:=k.keep [] z;refine (Qaa ?_);refine wr (pN 1 k z λa k=>nn (wp_ret (Qad ?_)));cases h;exact Qco k z (RV.tmp k z) ⟨([b3]++(F7++(Bo++Ad))),z,m.ext,(λb hb=>(m.sl [5,6,7,8] z).lo b (by simpa [fps] using hb)),(obx.fin (x:=(⟨r1.ff,r1.fJ,r1.fU,r1.fR,Cv,r1.fT,r1.fV⟩:Request)) (m.y Fq 5 z) (m.v Af 6 z) (m.v Bk 7 z) (m.v Ag 8 z) (by simpa [fps] using (m.sl [5,6,7,8] z).nd))⟩
 refine wp_skip (Qaa ?_);refine wp_seq (wr (pN 1 k z λa k=>oE h λIb Ft h=>sC k call194 z (Qlu fu (hT _ m.ext) _ _ _  Ft) λIo Hq hR=>?_));obtain ⟨In,Eg,rfl,e,Bd,Fm⟩:=hR;refine ⟨_,z,λa k=>?_⟩;have m:=m.nw e Fm Bd;refine pN 5 k z λa k=>nn (wr (pN 1 k z λa k=>nn (cI h k z (λDv h=>?_) λDv h=>?_)))
 · refine wr (pN 2 k z λa k=>oE h λCd Cq h=>sv k z (Qai (Enc.ow_rd Bd) Cq k Qdp z z z) λa k=>sv k z (Qaj (Enc.ow_rd Bd) (m.a 0 z) Cq 0 t13 k z z z z) λa k=>sv k z (Qlm k z z) λa k=>sv k z (Ql2 Q0i k z z) λa k=>sT (cs':=[I r1.ff,I r1.fJ.fW,I r1.fJ.fD,I r1.fJ.fH,I r1.fJ.fQ,I r1.fU,v6,v9,I Cd,Aj]) sizeOf3 m 5 Aa 8 k z z λHm a k e m Ev=>?_);have k:=k.keep [] z;refine nn (wr (pN 1 k z λa k=>nn (wp_ret (Qad ?_))));cases h;exact Qco k z (RV.tmp k z) ⟨([b3]++(F7++(Ae++Ad))),z,m.ext,(λb hb=>(m.sl [5,6,7,8] z).lo b (by simpa [fps] using hb)),(obx.fin (x:=(⟨r1.ff,r1.fJ,r1.fU,r1.fR,r1.fG,Cd,r1.fV⟩:Request)) (m.y Ev 5 z) (m.v Af 6 z) (m.v Ah 7 z) (m.v Ag 8 z) (by simpa [fps] using (m.sl [5,6,7,8] z).nd))⟩
 refine wp_skip (Qaa ?_);refine wp_seq (wr (pN 1 k z λa k=>oE h λIr Do h=>sC k call194 z (Qlu fu (hT _ m.ext) _ _ _  Do) λHn Gl hR=>?_));obtain ⟨Hv,Eo,rfl,e,Ac,Fp⟩:=hR;refine ⟨_,z,λa k=>?_⟩;have m:=m.nw e Fp Ac;refine pN 5 k z λa k=>?_;have k:=k.keep [0,15,16] z;refine nn (wr (pN 1 k z λa k=>nn (cI h k z (λDy h=>?_) λDy h=>?_)))
 · refine wp_seq (Qjb (Ad++([b3])) Qi5 m z λCx hMd=>?_);have m:=hMd;have s:=Ext.refl ((Ad++([b3])):List Nat) Cx;have hMj:=(hMd.sel [9,6,0,1,2,3,4,5,7,8] z (by decide)).join2;refine dM [0,1,5,8,11,14,17,20,23] 9 z k z s λa k=>dT k 2 z z s (λw s=>Qlm k z z) λa k=>dF k 3 Qhj z s λa k=>oE h λAl Bv h=>dT k 6 z z s (λw s=>Qai (Enc.ow_rd Ac) Bv k Qdp z z z) λa k=>dT k 7 z z s (λw s=>Qaj (Enc.ow_rd Ac) (hMj.az 1 0 z z z s) Bv 0 t13 k z z z z) λa k=>oE h λAq Cn h=>dT k 9 z z s (λw s=>Qai (Enc.ow_rd Ac) Cn k Qdp z z z) λa k=>?_;refine dT k 10 z z s (λw s=>Qaj (Enc.ow_rd Ac) (hMj.az 1 0 z z z s) Cn 0 t13 k z z z z) λa k=>oE h λAy Bx h=>dT k 12 z z s (λw s=>Qai (Enc.ow_rd Ac) Bx k Qdp z z z) λa k=>dT k 13 z z s (λw s=>Qaj (Enc.ow_rd Ac) (hMj.az 1 0 z z z s) Bx 0 t13 k z z z z) λa k=>oE h λBb Cf h=>dT k 15 z z s (λw s=>Qai (Enc.ow_rd Ac) Cf k Qdp z z z) λa k=>dT k 16 z z s (λw s=>Qaj (Enc.ow_rd Ac) (hMj.az 1 0 z z z s) Cf 0 t13 k z z z z) λa k=>oE h λAw Cs h=>?_
   refine dT k 18 z z s (λw s=>Qai (Enc.ow_rd Ac) Cs k Qdp z z z) λa k=>dT k 19 z z s (λw s=>Qaj (Enc.ow_rd Ac) (hMj.az 1 0 z z z s) Cs 0 t13 k z z z z) λa k=>oE h λAs By h=>dT k 21 z z s (λw s=>Qai (Enc.ow_rd Ac) By k Qdp z z z) λa k=>dT k 22 z z s (λw s=>Qaj (Enc.ow_rd Ac) (hMj.az 1 0 z z z s) By 0 t13 k z z z z) λa k=>oE h λAm Bs h=>dT k 24 z z s (λw s=>Qai (Enc.ow_rd Ac) Bs k Qdp z z z) λa k=>?_;refine dT k 25 z z s (λw s=>Qaj (Enc.ow_rd Ac) (hMj.az 1 0 z z z s) Bs 0 t13 k z z z z) λa k=>dT k 26 z z s (λw s=>Qa8 Jb8 k (cs:=#[I Al,I Aq,I Ay,I Bb,I Aw,I As,I Am]) (ps:=[(0,.tmp 146),(1,.tmp 149),(2,.tmp 152),(3,.tmp 155),(4,.tmp 158),(5,.tmp 161),(6,.tmp 164)]) z z (by kernel_rfl)) λa k=>Qmy 4 27 (by kernel_rfl) z z ?_ ?_
   · refine sv k z (Qq9 Qu7 m 6 Aa 9 k z z z z z) λa k=>wpList_nil ⟨s,?_⟩;refine dO 27 z (Qfb (cs:=[I Al,I Aq,I Ay,I Bb,I Aw,I As,I Am]) (ps:=[(0,.tmp 165)]) Q6j m k z z z z z z z (by decide) z (by exact fC z fN) λIi Hd Is a k m e Ea Ga=>?_);have Hb:=lo1 (Nat.le_trans s.size Ga);have Fb:=Qbf Ea ([(⟨Al,Aq,Ay,Bb,Aw,As,Am⟩:Item)]:List Item) z z z;refine ns s e λs=>?_;refine dO 28 z (oE h λDz Dx h=>Qbc Dx Q6j z m 10 Ag (News.rd (m.q Fb 0 z)) z z k z z z z z z z λEm Br Gn a k e m Bj Cu=>?_);have Ho:∀ y∈Br,y∈(Ad++([b3]))∨_≤y:=λy hy=>(Cu y hy).elim (λhy=>(λy hy=>Or.inl (List.mem_append_left _ hy)) y hy) (λh=>Or.inr (Nat.le_trans s.size h));have s:=s.trans e (λy hy=>Or.inl (List.mem_append_left _ hy));refine wpList_nil ⟨s,?_⟩;refine dT k 29 z z s (λw s=>Qlm k z z) λa k=>dF k 30 Qhj z s λa k=>dO 31 z (Qsf (cs':=(cR r1 v6 v9 Em)) sizeOf28 m 7 Aa 9 k (Qrm (Enc.ow_rd Bj)) (Qlw (Enc.ow_rd Bj)) z z z z z z z z z λGq a k e m Es=>?_);have s:=s.trans e (λy hy=>Or.inl (List.mem_append_right _ hy));refine wpList_nil ⟨s,?_⟩
     refine dD ?_;have k:=k.keep [] z;refine (Qaa ?_);refine wr (pN 1 k z λa k=>nn (wp_ret (Qad ?_)));cases h;exact Qco k z (RV.tmp k z) ⟨([b3]++(F7++(Ae++Br))),z,m.ext,(λb hb=>(m.sl [7,8,9,10] z).lo b (by simpa [fps] using hb)),(obx.fin (x:=(⟨r1.ff,r1.fJ,r1.fU,r1.fR,r1.fG,r1.fT,Dz⟩:Request)) (m.y Es 7 z) (m.v Af 8 z) (m.v Ah 9 z) (m.v Bj 10 z) (by simpa [fps] using (m.sl [7,8,9,10] z).nd))⟩
   refine Qfb (cs:=[I Al,I Aq,I Ay,I Bb,I Aw,I As,I Am]) (ps:=[(0,.tmp 165)]) Q6j m k z z z z z z z (by decide) z (by exact fC z fN) λGj Hg Ha a k m e Du Fx=>?_;have Gu:=lo1 (Nat.le_trans s.size Fx);have Cy:=Qbf Du ([(⟨Al,Aq,Ay,Bb,Aw,As,Am⟩:Item)]:List Item) z z z;refine ns s e λs=>?_;refine dO 4 z (sv k z (Qq9 Qu7 m 7 Aa 9 k z z z z z) λa k=>wpList_nil ⟨s,?_⟩);refine dO 28 z (oE h λEj Dn h=>Qbc Dn Q6j z m 10 Ag (News.rd (m.q Cy 0 z)) z z k z z z z z z z λCt Ca Hh a k e m Bm Fd=>?_);have Hw:∀ y∈Ca,y∈(Ad++([b3]))∨_≤y:=λy hy=>(Fd y hy).elim (λhy=>(λy hy=>Or.inl (List.mem_append_left _ hy)) y hy) (λh=>Or.inr (Nat.le_trans s.size h));have s:=s.trans e (λy hy=>Or.inl (List.mem_append_left _ hy));refine wpList_nil ⟨s,?_⟩;refine dT k 29 z z s (λw s=>Qlm k z z) λa k=>dF k 30 Qhj z s λa k=>dO 31 z (Qsf (cs':=(cR r1 v6 v9 Ct)) sizeOf28 m 7 Aa 9 k (Qrm (Enc.ow_rd Bm)) (Qlw (Enc.ow_rd Bm)) z z z z z z z z z λHr a k e m Ed=>?_);have s:=s.trans e (λy hy=>Or.inl (List.mem_append_right _ hy));refine wpList_nil ⟨s,?_⟩
   refine dD ?_;have k:=k.keep [] z;refine (Qaa ?_);refine wr (pN 1 k z λa k=>nn (wp_ret (Qad ?_)));cases h;exact Qco k z (RV.tmp k z) ⟨([b3]++(F7++(Ae++Ca))),z,m.ext,(λb hb=>(m.sl [7,8,9,10] z).lo b (by simpa [fps] using hb)),(obx.fin (x:=(⟨r1.ff,r1.fJ,r1.fU,r1.fR,r1.fG,r1.fT,Ej⟩:Request)) (m.y Ed 7 z) (m.v Af 8 z) (m.v Ah 9 z) (m.v Bm 10 z) (by simpa [fps] using (m.sl [7,8,9,10] z).nd))⟩
 refine wp_skip (Qaa ?_);refine wr (pN 1 k z λa k=>nn (wp_ret ?_));cases h;exact Qco k z (RV.tmp k z) ⟨([b3]++(F7++(Ae++Ad))),z,m.ext,(λb hb=>(m.sl [6,7,8,9] z).lo b (by simpa [fps] using hb)),(obx.fin (x:=r1) (m.y Aa 6 z) (m.v Af 7 z) (m.v Ah 8 z) (m.v Ag 9 z) (by simpa [fps] using (m.sl [6,7,8,9] z).nd))⟩
theorem Qw3 (fu:Nat) {w0:World} (Aa:Int) (Ah:Int)  {r:Bool}
    (h:Qlr fu Aa Ah=some r) :
    Calls Tryz.prog 116 #[I Aa,I Ah] w0 λe w=>e=.returned (.bool (r))∧Ext [] w0 w:=by
 refine en (vs:=[_,_]) func116 z ntmps116 z λa k m=>?_;unfold Qlr at h;refine wr (pN 1 k z λa k=>nn (Qcw (λa w=>K 38 [] a∧St [] w0 w []∧Qge fu=some r) ?_ ?_))
 · rintro a Bj ⟨k,m,h⟩;unfold Qge at h;refine wr (pN 1 k z λa k=>nn (wp_ret (fS h k m z z)))
 refine wr (pN 1 k z λa k=>nn (wp_block (wp_seq (wr (pN 2 k z λa k=>nn (cI h k z (λAj h=>?_) λAj h=>?_))))))
 · refine wp_skip (Qaa ?_);refine cI h k z (λBc h=>?_) λBc h=>?_
   · refine wr (pN 5 k z λa k=>nn (wp_ret (Qag (Qad ?_))));refine fS h k m z z
   refine wr (pN 2 k z λa k=>nn (cI h k z (λAr h=>?_) λAr h=>?_))
   · refine wr (pN 3 k z λa k=>Qal (Aa==2) (λAe=>?_) (λAe=>?_))
     · have h:=Qav Ae h;refine rB k 18 z Ae λk=>pN 4 k z λa k=>nn (wp_ret (Qag (Qad ?_)));refine fS h k m z z
     have h:=Qaw Ae h;refine rB k 18 z Ae λk=>pN 4 k z λa k=>nn (wp_ret (Qag (Qad ?_)));refine fS h k m z z
   refine wr (pN 2 k z λa k=>nn (cI h k z (λAw h=>?_) λAw h=>?_))
   · refine wr (pN 1 k z λa k=>oE h λBg At h=>cC k m call42 z (Qbb fu _ _ _  At) λBh e a k m=>pN 1 k z λa k=>nn (wp_ret (Qag (Qad ?_))));refine fS h k m z z
   refine wr (pN 2 k z λa k=>nn (cI h k z (λAp h=>?_) λAp h=>?_))
   · refine wr (pN 1 k z λa k=>oE h λBs Bd h=>cC k m call42 z (Qbb fu _ _ _  Bd) λBm e a k m=>pN 1 k z λa k=>nn (wp_ret (Qag (Qad ?_))));refine fS h k m z z
   refine wr (pN 2 k z λa k=>nn (cI h k z (λBe h=>?_) λBe h=>?_))
   · refine wr (pN 3 k z λa k=>Qal (Aa==5) (λAb=>?_) (λAb=>?_))
     · have h:=Qav Ab h;refine rB k 34 z Ab λk=>pN 4 k z λa k=>nn (wp_ret (Qag (Qad ?_)));refine fS h k m z z
     have h:=Qaw Ab h;refine rB k 34 z Ab λk=>pN 4 k z λa k=>nn (wp_ret (Qag (Qad ?_)));refine fS h k m z z
   refine wp_skip (Qaf (Qaa ?_));exact ⟨k.keep [] z,m.sl [] z,h⟩
 refine wr (pN 2 k z λa k=>nn (cI h k z (λBa h=>?_) λBa h=>?_))
 · refine wp_skip (Qaa ?_);refine cI h k z (λAz h=>?_) λAz h=>?_
   · refine wr (pN 5 k z λa k=>nn (wp_ret (Qag (Qad ?_))));refine fS h k m z z
   refine wr (pN 2 k z λa k=>nn (cI h k z (λAx h=>?_) λAx h=>?_))
   · refine wr (pN 3 k z λa k=>Qal (Aa==2) (λAf=>?_) (λAf=>?_))
     · have h:=Qav Af h;refine rB k 18 z Af λk=>pN 4 k z λa k=>nn (wp_ret (Qag (Qad ?_)));refine fS h k m z z
     have h:=Qaw Af h;refine rB k 18 z Af λk=>pN 4 k z λa k=>nn (wp_ret (Qag (Qad ?_)));refine fS h k m z z
   refine wr (pN 2 k z λa k=>nn (cI h k z (λBb h=>?_) λBb h=>?_))
   · refine wr (pN 1 k z λa k=>oE h λBp Bf h=>cC k m call42 z (Qbb fu _ _ _  Bf) λBl e a k m=>pN 1 k z λa k=>nn (wp_ret (Qag (Qad ?_))));refine fS h k m z z
   refine wr (pN 2 k z λa k=>nn (cI h k z (λAv h=>?_) λAv h=>?_))
   · refine wr (pN 1 k z λa k=>oE h λBk Ay h=>cC k m call42 z (Qbb fu _ _ _  Ay) λBr e a k m=>pN 1 k z λa k=>nn (wp_ret (Qag (Qad ?_))));refine fS h k m z z
   refine wr (pN 2 k z λa k=>nn (cI h k z (λAk h=>?_) λAk h=>?_))
   · refine wr (pN 3 k z λa k=>Qal (Aa==5) (λAg=>?_) (λAg=>?_))
     · have h:=Qav Ag h;refine rB k 34 z Ag λk=>pN 4 k z λa k=>nn (wp_ret (Qag (Qad ?_)));refine fS h k m z z
     have h:=Qaw Ag h;refine rB k 34 z Ag λk=>pN 4 k z λa k=>nn (wp_ret (Qag (Qad ?_)));refine fS h k m z z
   refine wp_skip (Qaf (Qaa ?_));exact ⟨k.keep [] z,m.sl [] z,h⟩
 refine wp_region_lit (pN 2 k z λa k=>nn (cI h k z (λAm h=>?_) λAm h=>?_))
 · refine wr (pN 5 k z λa k=>nn (wp_ret (Qag (Qad ?_))));refine fS h k m z z
 refine wr (pN 2 k z λa k=>nn (cI h k z (λAq h=>?_) λAq h=>?_))
 · refine wr (pN 3 k z λa k=>Qal (Aa==2) (λAc=>?_) (λAc=>?_))
   · have h:=Qav Ac h;refine rB k 18 z Ac λk=>pN 4 k z λa k=>nn (wp_ret (Qag (Qad ?_)));refine fS h k m z z
   have h:=Qaw Ac h;refine rB k 18 z Ac λk=>pN 4 k z λa k=>nn (wp_ret (Qag (Qad ?_)));refine fS h k m z z
 refine wr (pN 2 k z λa k=>nn (cI h k z (λAi h=>?_) λAi h=>?_))
 · refine wr (pN 1 k z λa k=>oE h λBn As h=>cC k m call42 z (Qbb fu _ _ _  As) λBq e a k m=>pN 1 k z λa k=>nn (wp_ret (Qag (Qad ?_))));refine fS h k m z z
 refine wr (pN 2 k z λa k=>nn (cI h k z (λAo h=>?_) λAo h=>?_))
 · refine wr (pN 1 k z λa k=>oE h λBi Al h=>cC k m call42 z (Qbb fu _ _ _  Al) λBo e a k m=>pN 1 k z λa k=>nn (wp_ret (Qag (Qad ?_))));refine fS h k m z z
 refine wr (pN 2 k z λa k=>nn (cI h k z (λAu h=>?_) λAu h=>?_))
 · refine wr (pN 3 k z λa k=>Qal (Aa==5) (λAd=>?_) (λAd=>?_))
   · have h:=Qav Ad h;refine rB k 34 z Ad λk=>pN 4 k z λa k=>nn (wp_ret (Qag (Qad ?_)));refine fS h k m z z
   have h:=Qaw Ad h;refine rB k 34 z Ad λk=>pN 4 k z λa k=>nn (wp_ret (Qag (Qad ?_)));refine fS h k m z z
 refine wp_skip (Qaf (Qaa ?_));exact ⟨k.keep [] z,m.sl [] z,h⟩
theorem Qs7 (fu:Nat) {w0:World} (hT:Te Tryz.prog w0) (Bk:ByteArray)  {r:Request×Int}
    (h:Qhu fu Bk=some r) :
    Calls Tryz.prog 54 #[.string (Bk)] w0 λe w=>∃ (Bj:List Value) (G0:List Nat),e=.returned (.tuple #[.agg Bj.toArray,I r.2])∧Ext [] w0 w∧ow w G0 Bj r.1∧(∀ b∈G0,w0.heap.size≤b):=by
 refine en (vs:=[_]) func54 z ntmps54 z λa k m=>?_;unfold Qhu at h;refine wr (Qay (cs:=[I 0,I 0,I 0,I 0,I 0,I 0,.slice none 0 0,.slice none 0 0,I 0,.slice none 0 0]) m k zeroValue30 z z z z z λb2 w4 a k m e Aj=>pN 1 k z λa k=>nn (wr (pN 1 k z λa k=>oE h λx5 Ch h=>sC k call114 z (Qwi fu _ _  Ch) λe7 w9 hR=>?_)));obtain ⟨Bq,Bo,rfl,e,Ag,Cm⟩:=hR;refine ⟨_,z,λa k=>?_⟩;have m:=m.nw e Cm Ag;refine pN 1 k z λa k=>nn (wr (pN 1 k z λa k=>sv k z (Qba (α:=ByteArray) (Enc.ow_rd Ag) k underlying133 z z) λa k=>pN 2 k z λa k=>nn (wp_seq (wr (pN 2 k z λa k=>nn (cI h k z (λCu h=>?_) λCu h=>?_))))))
 · refine wr (sv k z (Qa8 Q44 k (cs:=#[I 0,I 0,I 0,I 0,I 0,I 0,.slice none 0 0,.slice none 0 0,I 0,.slice none 0 0]) (ps:=[]) z z (by kernel_rfl)) λa k=>sT (cs':=[I 0,I 0,I 0,I 0,I 0,I 0,.slice none 0 0,.slice none 0 0,I 0,.slice none 0 0]) sizeOf30 m 1 Aj 0 k z z λDa a k e m Cc=>pN 1 k z λa k=>nn (wp_ret (Qad ?_)));cases h;exact Qf6 k z (RV.cA k z Qf7 (Cc.at (m.a 1 z) 0 10 z z z) z) (RV.tmp k z) ⟨_,_,z,m.ext,⟨_,[],_,[],_,[],z,z,(Qbr _),(Qbr _),(Qbr _),by simpa [fps] using (m.sl [] z).nd⟩,(Qce (by simp) (Qce (by simp) (by simp)))⟩
 refine wp_skip (Qaa ?_);refine wr (sv k z (Qa8 Q44 k (cs:=#[I 0,I 0,I 0,I 0,I 0,I 0,.slice none 0 0,.slice none 0 0,I 0,.slice none 0 0]) (ps:=[]) z z (by kernel_rfl)) λa k=>Qay (cs:=[I 0,I 0,I 0,I 0,I 0,I 0,.slice none 0 0,.slice none 0 0,I 0,.slice none 0 0]) m k zeroValue30 z z z z z λBh Db a k m e Ce=>sT (cs':=[I 0,I 0,I 0,I 0,I 0,I 0,.slice none 0 0,.slice none 0 0,I 0,.slice none 0 0]) sizeOf30 m 0 Ce 0 k z z λCt a k e m Cw=>nn (wr (pN 1 k z λa k=>nn (wp_seq (wr (pN 2 k z λa k=>oE h λBi Cv h=>?_))))));refine Q4k (Enc.ow_rd Ag) Cv k Qvh z z z z z z λBt a k Bd=>sv k z (Qba (α:=ByteArray) Bd k underlying133 z z) λa k=>pN 1 k z λa k=>nn (wp_block ?_)
 refine Qas (λn a w=>∃ (Ae:Int) (Ad:Int) (Ac:Int) (Ab:Int) (Ai:Int) (Af:Int) (Al:List Pair) (Aq:Value) (Ar:List Nat) (Ba:World) (Ak:List Typ) (Av:Value) (Ax:List Nat) (Be:World) (Ah:Int) (Am:List Item) (Ap:Value) (As:List Nat) (Bf:World) (Az:World) (Au:Int) (Aw:Int),K 51 [(2,pt b2),(4,Bq),(5,I (w64 ((x5.length:Int) - 1))),(6,pt Bh),(7,I Au),(22,Bt),(23,I (Bi.length:Int)),(24,I Aw)] a∧St [] w0 w [([b2],w4),(Ar,Ba),(Ax,Be),(As,Bf),([Bh],Az),(Bo,w9)]∧ow Ba Ar [Aq] Al∧ow Be Ax [Av] Ak∧ow Bf As [Ap] Am∧bx Az Bh [I Ae,I Ad,I Ac,I Ab,I Ai,I Af,Aq,Av,I Ah,Ap] 30∧Qez fu x5 Bi n Ae Ad Ac Ab Ai Af Al Ak Ah Am Au Aw=some r) ?_ ?_ fu _ _ ?_
 · rintro a w ⟨_,_,_,_,_,_,_,_,_,_,_,_,_,_,_,_,_,_,_,_,_,_,_,_,_,_,_,_,h⟩;exact nS h
 · rintro Dj a Dg ⟨Ae,Ad,Ac,Ab,Ai,Af,Al,Aq,Ar,Ba,Ak,Av,Ax,Be,Ah,Am,Ap,As,Bf,Az,Au,Aw,k,m,Bb,Ay,Bg,Bm,h⟩;rw [Qez.eq_2] at h;unfold Qh8 at h;refine wr (pN 1 k z λa k=>nn (wp_seq (cI h k z (λBw h=>?_) λBw h=>?_)))
   · refine wp_skip (Qaa ?_);refine wp_seq (wp_block (wr (pN 1 k z λa k=>oE h λDd Bn h=>sv k z (Qai Bd Bn k Qvh z z z) λa k=>sv k z (Qaj Bd (m.a 5 z) Bn 0 t19 k z z z z) λa k=>pN 2 k z λa k=>nn (wr (pN 1 k z λa k=>?_)))));have Cx:=Enc.ow_agr Bb (m.a 1 z);have Br:=Enc.ow_agr Ay (m.a 2 z);have Cq:=Enc.ow_agr Bg (m.a 3 z);have Ck:=Bm.agr (m.a 4 z) (by simp);have m:=(m.sl [4,1,2,3,0,5] z).joinq;have Cd:=obx.fin (x:=(⟨Ae,(⟨Ad,Ac,Ab,Ai⟩:Pallet),Af,Al,Ak,Ah,Am⟩:Request)) Ck Cx Br Cq (m.ndF 0 z);refine oE h λAa Cf h=>sC k call115 z (Qzd fu (((⟨Ae,(⟨Ad,Ac,Ab,Ai⟩:Pallet),Af,Al,Ak,Ah,Am⟩:Request)):Request) _ Cd (m.te2 hT 0 z) Cf) λCz At hR=>?_;obtain ⟨Df,rfl,e,Bx,Bc⟩:=hR;refine ⟨_,z,λa k=>?_⟩;have m:=m.mut 0 z e _ (λb hb=>⟨Bx b hb,Bc.lt b hb⟩) Bc.nd;obtain ⟨Cb,Cl,Bs,By,Bz,Cn,Ci,rfl,Bv,Co,Cj,_⟩:=Bc;have m:=m.split4;refine pN 1 k z λa k=>nn (wp_seq (wr (pN 2 k z λa k=>oE h λCy Cs h=>cC k m call116 z (Qw3 fu _ _  Cs) λDe e a k m=>pN 1 k z λa k=>nn (cI h k z (λBu h=>?_) λBu h=>?_))))
     · refine wr (sv k z (Qa8 Q44 k (cs:=#[I 0,I 0,I 0,I 0,I 0,I 0,.slice none 0 0,.slice none 0 0,I 0,.slice none 0 0]) (ps:=[]) z z (by kernel_rfl)) λa k=>pN 1 k z λa k=>sT (cs':=[I 0,I 0,I 0,I 0,I 0,I 0,.slice none 0 0,.slice none 0 0,I 0,.slice none 0 0]) sizeOf30 m 4 Aj 0 k z z λDh a k e m Cp=>pN 1 k z λa k=>nn (wp_ret (Qad (Qag (Qad (Qad (Qag (Qad ?_))))))));cases h;exact Qf6 k z (RV.cA k z Qf7 (Cp.at (m.a 4 z) 0 10 z z z) z) (RV.tmp k z) ⟨_,_,z,m.ext,⟨_,[],_,[],_,[],z,z,(Qbr _),(Qbr _),(Qbr _),by simpa [fps] using (m.sl [] z).nd⟩,(Qce (by simp) (Qce (by simp) (by simp)))⟩
     refine wp_skip (Qaa ?_);refine wp_region_lit (pN 2 k z λa k=>wpList_nil (Qaf (Qaa ?_)));refine wp_region_lit (pN 2 k z λa k=>nn ?_);exact ⟨Aa.2.ff,Aa.2.fJ.fW,Aa.2.fJ.fD,Aa.2.fJ.fH,Aa.2.fJ.fQ,Aa.2.fU,Aa.2.fR,Cb,Cl,At,Aa.2.fG,Bs,By,At,Aa.2.fT,Aa.2.fV,Bz,Cn,At,At,Aa.1,w64 (Aw+1),k.keep [2,4,5,6,7,22,23,24] z,m.sl [4,1,2,3,0,5] z,Bv,Co,Cj,Ci,h⟩
   refine wp_exit (Qae (Qae (Qak (Qaa ?_))));refine wp_seq (wr (pN 3 k z λa k=>Qal (decide (Au<5)) (λAo=>?_) (λAo=>?_)))
   · have h:=Qav Ao h;refine rB k 41 z Ao λk=>pN 6 k z λa k=>nn (wp_cond_true (k.ev z) (wr (sv k z (Qa8 Q44 k (cs:=#[I 0,I 0,I 0,I 0,I 0,I 0,.slice none 0 0,.slice none 0 0,I 0,.slice none 0 0]) (ps:=[]) z z (by kernel_rfl)) λa k=>pN 1 k z λa k=>sT (cs':=[I 0,I 0,I 0,I 0,I 0,I 0,.slice none 0 0,.slice none 0 0,I 0,.slice none 0 0]) sizeOf30 m 0 Aj 0 k z z λDc a k e m Cg=>pN 1 k z λa k=>nn (wp_ret (Qad ?_)))));cases h;exact Qf6 k z (RV.cA k z Qf7 (Cg.at (m.a 0 z) 0 10 z z z) z) (RV.tmp k z) ⟨_,_,z,m.ext,⟨_,[],_,[],_,[],z,z,(Qbr _),(Qbr _),(Qbr _),by simpa [fps] using (m.sl [] z).nd⟩,(Qce (by simp) (Qce (by simp) (by simp)))⟩
   have h:=Qaw Ao h;refine rB k 41 z Ao λk=>pN 2 k z λa k=>oE h λDl Bl h=>sv k z (Qai (Enc.ow_rd Ag) Bl k Qvh z z z) λa k=>sv k z (Qaj (Enc.ow_rd Ag) (m.a 5 z) Bl 0 t19 k z z z z) λa k=>pN 2 k z λa k=>nn (cI h k z (λCa h=>?_) λCa h=>?_)
   · refine wr (sv k z (Qa8 Q44 k (cs:=#[I 0,I 0,I 0,I 0,I 0,I 0,.slice none 0 0,.slice none 0 0,I 0,.slice none 0 0]) (ps:=[]) z z (by kernel_rfl)) λa k=>pN 1 k z λa k=>sT (cs':=[I 0,I 0,I 0,I 0,I 0,I 0,.slice none 0 0,.slice none 0 0,I 0,.slice none 0 0]) sizeOf30 m 0 Aj 0 k z z λDi a k e m Bp=>pN 1 k z λa k=>nn (wp_ret (Qad ?_)));cases h;exact Qf6 k z (RV.cA k z Qf7 (Bp.at (m.a 0 z) 0 10 z z z) z) (RV.tmp k z) ⟨_,_,z,m.ext,⟨_,[],_,[],_,[],z,z,(Qbr _),(Qbr _),(Qbr _),by simpa [fps] using (m.sl [] z).nd⟩,(Qce (by simp) (Qce (by simp) (by simp)))⟩
   refine wp_skip (Qaa ?_);refine wr (sv k z (rL Qf7 m 4 Bm 0 k z) λa k=>sT (cs':=[I Ae,I Ad,I Ac,I Ab,I Ai,I Af,Aq,Av,I Ah,Ap]) sizeOf30 m 0 Aj 0 k z (Qcz z (Qcz z (Qcz z (Qcz z (Qcz z (Qcz z (Qcz (Qlw (Enc.ow_rd Bb)) (Qcz (Qlw (Enc.ow_rd Ay)) (Qcz z (Qcz (Qlw (Enc.ow_rd Bg)) Qsn)))))))))) λDk a k e m Cr=>pN 1 k z λa k=>nn (wp_ret ?_));cases h;exact Qf6 k z (RV.cA k z Qf7 (Cr.at (m.a 0 z) 0 10 z z z) z) (RV.tmp k z) ⟨_,_,z,m.ext,⟨_,Ar,_,Ax,_,As,z,z,(m.v Bb 1 z),(m.v Ay 2 z),(m.v Bg 3 z),by simpa [fps] using (m.sl [1,2,3] z).nd⟩,(Qce (m.fresh 1 z) (Qce (m.fresh 2 z) (m.fresh 3 z)))⟩
 exact ⟨0,0,0,0,0,0,([]:List Pair),.slice none 0 0,[],_,([]:List Typ),.slice none 0 0,[],_,0,([]:List Item),.slice none 0 0,[],_,Ct,(-1),0,k.keep [2,4,5,6,7,22,23,24] z,(((m.addNil (u:=w0)).addNil (u:=w0)).addNil (u:=w0)).sel [5,0,1,2,3,4] z (by decide),(Qbr _),(Qbr _),(Qbr _),Cw,h⟩
theorem Qvp (fu:Nat) {w0:World} (t1:Typ) (x2:Int) {b3:Nat} (Aa:bx w0 b3 [I x2] 3) {r:Bool}
    (h:Qn1 fu t1 x2=some r) :
    Calls Tryz.prog 147 #[.agg (Flat.e (t1)).toArray,pt b3] w0 λe w=>e=.returned (.bool (r))∧Ext [] w0 w:=by
 refine en (vs:=[_,_]) func147 z ntmps147 z λa k m=>?_;unfold Qn1 at h;refine wr (Qbv (cs:=[I t1.f8,I t1.fW,I t1.fH,I t1.fD,I t1.fO,I t1.fQ,I t1.fL]) m k z z z z z z λb5 w7 a k m e Ab=>pN 1 k z λa k=>nn (wr (fl Qr7 t13 m 0 Ab k z z λa k=>sv k z (Qao t13 (r:=[]) (Aa.at (m.a00 Aa.lt1) 0 1 z z z) k z z) λa k=>pN 2 k z λa k=>nn (wp_ret (fS h k m z z)))))
theorem Qgz (fu:Nat) {w0:World} (Ab:List Typ) (f5:Typ→Option Bool) {v2:Value} {F3:List Nat} (Aa:rd w0 F3 [v2] Ab) {v6:Value} (Ah:Qun Tryz.prog w0 v6 f5) {r:Int}
    (h:Qbh fu Ab f5=some r) :
    Calls Tryz.prog 146 #[v2,v6] w0 λe w=>e=.returned (I r)∧Ext [] w0 w:=by
 refine en (vs:=[_,_]) func146 z ntmps146 z λa k m=>?_;obtain ⟨Af,Ag,rfl,Ae,Al⟩:=Ah;unfold Qbh at h;refine wr (pN 1 k z λa k=>nn (wp_seq (wr (pN 1 k z λa k=>sv k z (Qba (α:=Typ) Aa k underlying27 z z) λa k=>pN 1 k z λa k=>nn (wp_block (Qas (λn a w=>∃ (Ac:Int),K 19 [(0,v2),(1,(.func (.func Af) #[] Ag.toArray)),(7,I (Ab.length:Int)),(8,I Ac)] a∧St [] w0 w []∧Qa3 fu Ab f5 n Ac=some r) ?_ ?_ fu _ _ ?_))))))
 · rintro a w ⟨_,_,_,h⟩;exact nS h
 · rintro Ar a Ap ⟨Ac,k,m,h⟩;rw [Qa3.eq_2] at h;unfold Qca at h;refine wr (pN 1 k z λa k=>nn (wp_seq (cI h k z (λAj h=>?_) λAj h=>?_)))
   · refine wp_skip (Qaa ?_);refine wp_seq (wp_block (wr (pN 2 k z λa k=>nn (wr (pN 3 k z λa k=>oE h λAo Ad h=>sv k z (Qai Aa Ad k Q5i z z z) λa k=>sv k z (Qnr Aa (m.a00 (Enc.rd_lt Aa)) Ad Qtd k z z) λa k=>oE h λAq Ak h=>Qsk k Ae z z z z z z (Al _ _ _ _ m.ext z Ak) λAm As hR=>?_)))));obtain ⟨rfl,e⟩:=hR;refine ⟨_,z,λa k=>?_⟩;have m:=m.step e;refine nn (cI h k z (λAi h=>?_) λAi h=>?_)
     · refine wr (pN 2 k z λa k=>nn (wp_ret (Qag (Qad (Qad (Qag (Qad ?_)))))));refine fS h k m z z
     refine wp_skip (Qaf (Qaa ?_));refine wp_region_lit (pN 2 k z λa k=>nn ?_);exact ⟨w64 (Ac+1),k.keep [0,1,7,8] z,m.sl [] z,h⟩
   refine wp_exit (Qae (Qae (Qak (Qaa ?_))));refine wr (pN 1 k z λa k=>nn (wp_ret (fS h k m z z)))
 exact ⟨0,k.keep [0,1,7,8] z,m.sl [] z,h⟩
theorem Qr5 (fu:Nat) {w0:World} (r1:Request) (Ac:Int) {Af:List Value} {F3:List Nat} (Ak:rd w0 F3 Af r1) {r:Typ×Bool}
    (h:Qhm fu r1 Ac=some r) :
    Calls Tryz.prog 68 #[.agg Af.toArray,I Ac] w0 λe w=>e=.returned (.tuple #[.agg (Flat.e r.1).toArray,.bool (r.2)])∧Ext [] w0 w:=by
 refine en (vs:=[_,_]) func68 z ntmps68 z λa k m=>?_;obtain ⟨v6,F7,v8,F9,Ai,At,rfl,rfl,Ar,Ab,Bc⟩:=Ak;unfold Qhm at h;refine wr (Qbv (cs:=(cR r1 v6 v8 Ai)) m k z z z z z z λAx Be a k m e Ad=>Qbv (cs:=[I Ac]) m k z z z z z z λAo Ba a k m e Aj=>Qay (cs:=[I 0,I 0,I 0,I 0,I 0,I 0,I 0]) m k zeroValue90 z z z z z λBb Av a k m e Ag=>pN 1 k z λa k=>nn (wr (fl Qhs Qve m 2 Ad k z z λa k=>pN 1 k z λa k=>oE h λAs Al h=>?_)));refine cC k m call146 z (Qgz fu _ _ (m.r Ab) ⟨147,[pt Ao],z,call147,λw Ay Au r e Ap hx=>by subst Ap; have m:=m.step e; exact Qvp fu _ _ (Aj.agr (m.a 1 rfl) (by simp)) hx⟩ Al) λBd e a k m=>pN 1 k rfl λa k=>nn (wp_seq (wr (pN 2 k rfl λa k=>nn (cI h k rfl (λAq h=>?_) λAq h=>?_))))
 · refine wr (sv k z (Qa8 Jcd k (cs:=#[I 0,I 0,I 0,I 0,I 0,I 0,I 0]) (ps:=[]) z z (by kernel_rfl)) λa k=>sT (cs':=[I 0,I 0,I 0,I 0,I 0,I 0,I 0]) sizeOf90 m 0 Ag 0 k z z λAw a k e m Ah=>pN 1 k z λa k=>nn (wp_ret (Qad ?_)));cases h;exact Qf6 k z (RV.cA k z Qtd (Ah.at (m.a 0 z) 0 7 z z z) z) (RV.tmp k z) ⟨z,m.ext⟩
 refine wp_skip (Qaa ?_);refine wr (fl Qhs Qve m 2 Ad k z z λa k=>pN 1 k z λa k=>oE h λAa Ae h=>sv k z (Qai Ab Ae k Q5i z z z) λa k=>sv k z (Qnr Ab (m.a00 (Enc.rd_lt Ab)) Ae Qtd k z z) λa k=>sT (cs':=[I Aa.f8,I Aa.fW,I Aa.fH,I Aa.fD,I Aa.fO,I Aa.fQ,I Aa.fL]) sizeOf90 m 0 Ag 0 k z z λAz a k e m Am=>pN 1 k z λa k=>nn (wp_ret ?_));cases h;exact Qf6 k z (RV.cA k z Qtd (Am.at (m.a 0 z) 0 7 z z z) z) (RV.tmp k z) ⟨z,m.ext⟩
theorem Qru (fu:Nat) {w0:World} (r1:Request) {Af:List Value} {F3:List Nat} (Ag:rd w0 F3 Af r1) {r:Typ×Bool}
    (h:Qhg fu r1=some r) :
    Calls Tryz.prog 131 #[.agg Af.toArray] w0 λe w=>e=.returned (.tuple #[.agg (Flat.e r.1).toArray,.bool (r.2)])∧Ext [] w0 w:=by
 refine en (vs:=[_]) func131 z ntmps131 z λa k m=>?_;obtain ⟨v5,F6,v7,F8,v9,Aq,rfl,rfl,Ad,Ab,Ae⟩:=Ag;unfold Qhg at h;refine wr (Qbv (cs:=(cR r1 v5 v7 v9)) m k z z z z z z λAm Ao a k m e Ac=>Qay (cs:=[I 0,I 0,I 0,I 0,I 0,I 0,I 0]) m k zeroValue90 z z z z z λAr Ap a k m e Ai=>pN 1 k z λa k=>nn (wr (sv k z (rL Qf7 m 1 Ac 0 k z) λa k=>fl Q0i t13 m 1 Ac k z z λa k=>oE h λAa Ah h=>?_)));refine cC k m call68 z (Qr5 fu _ _ (Qah (m.r Ad) (m.r Ab) (m.r Ae)) Ah) λAl e a k m=>pN 2 k z λa k=>sT (cs':=[I Aa.1.f8,I Aa.1.fW,I Aa.1.fH,I Aa.1.fD,I Aa.1.fO,I Aa.1.fQ,I Aa.1.fL]) sizeOf90 m 0 Ai 0 k z z λAk a k e m Aj=>pN 1 k z λa k=>nn (wp_ret ?_);cases h;exact Qf6 k z (RV.cA k z Qtd (Aj.at (m.a 0 z) 0 7 z z z) z) (RV.tmp k z) ⟨z,m.ext⟩
theorem Qg6 (fu:Nat) {w0:World} (n1:Int)  {r:Bool}
    (h:Qdu fu n1=some r) :
    Calls Tryz.prog 189 #[I n1] w0 λe w=>e=.returned (.bool (r))∧Ext [] w0 w:=by
 refine en (vs:=[_]) func189 z ntmps189 z λa k m=>?_;unfold Qdu at h;refine wr (pN 1 k z λa k=>nn (wr (pN 1 k z λa k=>oE h λx2 Aa h=>cC k m call42 z (Qbb fu _ _ _  Aa) λw5 e a k m=>pN 1 k z λa k=>nn (wp_ret (fS h k m z z)))))
theorem Qqo (fu:Nat) {w0:World} (x1:Pallet)  {r:Bool}
    (h:Qem fu x1=some r) :
    Calls Tryz.prog 149 #[.agg (Flat.e (x1)).toArray] w0 λe w=>e=.returned (.bool (r))∧Ext [] w0 w:=by
 refine en (vs:=[_]) func149 z ntmps149 z λa k m=>?_;unfold Qem at h;refine wr (Qbv (cs:=[I x1.fW,I x1.fD,I x1.fH,I x1.fQ]) m k z z z z z z λb2 w4 a k m e Ad=>pN 1 k z λa k=>nn (wr (fl Qwj t13 m 0 Ad k z z λa k=>oE h λx5 Aj h=>cC k m call189 z (Qg6 fu _  Aj) λw9 e a k m=>pN 1 k z λa k=>Qal (x5) (λAa=>?_) (λAa=>?_))))
 · have h:=Qav Aa h;refine rB k 6 z Aa λk=>fl Qtm t13 m 0 Ad k z z λa k=>oE h λAi Ah h=>cC k m call189 z (Qg6 fu _  Ah) λAo e a k m=>pN 2 k z λa k=>Qal (Ai) (λAb=>?_) (λAb=>?_)
   · have h:=Qav Ab h;refine rB k 11 z Ab λk=>fl Qti t13 m 0 Ad k z z λa k=>oE h λAf Ag h=>cC k m call189 z (Qg6 fu _  Ag) λAm e a k m=>pN 2 k z λa k=>Qal (Af) (λAc=>?_) (λAc=>?_)
     · have h:=Qav Ac h;refine rB k 16 z Ac λk=>fl Qr3 t13 m 0 Ad k z z λa k=>oE h λAl Ae h=>cC k m call42 z (Qbb fu _ _ _  Ae) λAk e a k m=>pN 2 k z λa k=>nn (wp_ret (fS h k m z z))
     have h:=Qaw Ac h;refine rB k 16 z Ac λk=>pN 5 k z λa k=>nn (wp_ret (fS h k m z z))
   have h:=Qaw Ab h;refine rB k 11 z Ab λk=>pN 10 k z λa k=>nn (wp_ret (fS h k m z z))
 have h:=Qaw Aa h;refine rB k 6 z Aa λk=>pN 15 k z λa k=>nn (wp_ret (fS h k m z z))
theorem Qn6 (fu:Nat) {w0:World} (Ab:List Pair) (f5:Pair→Option Bool) {v2:Value} {F3:List Nat} (Aa:rd w0 F3 [v2] Ab) {v6:Value} (Ah:Qun Tryz.prog w0 v6 f5) {r:Int}
    (h:Qb3 fu Ab f5=some r) :
    Calls Tryz.prog 250 #[v2,v6] w0 λe w=>e=.returned (I r)∧Ext [] w0 w:=by
 refine en (vs:=[_,_]) func250 z ntmps250 z λa k m=>?_;obtain ⟨Af,Ag,rfl,Ae,Al⟩:=Ah;unfold Qb3 at h;refine wr (pN 1 k z λa k=>nn (wp_seq (wr (pN 1 k z λa k=>sv k z (Qba (α:=Pair) Aa k underlying26 z z) λa k=>pN 1 k z λa k=>nn (wp_block (Qas (λn a w=>∃ (Ac:Int),K 19 [(0,v2),(1,(.func (.func Af) #[] Ag.toArray)),(7,I (Ab.length:Int)),(8,I Ac)] a∧St [] w0 w []∧Qa2 fu Ab f5 n Ac=some r) ?_ ?_ fu _ _ ?_))))))
 · rintro a w ⟨_,_,_,h⟩;exact nS h
 · rintro Ar a Ap ⟨Ac,k,m,h⟩;rw [Qa2.eq_2] at h;unfold Qb9 at h;refine wr (pN 1 k z λa k=>nn (wp_seq (cI h k z (λAj h=>?_) λAj h=>?_)))
   · refine wp_skip (Qaa ?_);refine wp_seq (wp_block (wr (pN 2 k z λa k=>nn (wr (pN 3 k z λa k=>oE h λAo Ad h=>sv k z (Qai Aa Ad k Ja9 z z z) λa k=>sv k z (Qnr Aa (m.a00 (Enc.rd_lt Aa)) Ad Q92 k z z) λa k=>oE h λAq Ak h=>Qsk k Ae z z z z z z (Al _ _ _ _ m.ext z Ak) λAm As hR=>?_)))));obtain ⟨rfl,e⟩:=hR;refine ⟨_,z,λa k=>?_⟩;have m:=m.step e;refine nn (cI h k z (λAi h=>?_) λAi h=>?_)
     · refine wr (pN 2 k z λa k=>nn (wp_ret (Qag (Qad (Qad (Qag (Qad ?_)))))));refine fS h k m z z
     refine wp_skip (Qaf (Qaa ?_));refine wp_region_lit (pN 2 k z λa k=>nn ?_);exact ⟨w64 (Ac+1),k.keep [0,1,7,8] z,m.sl [] z,h⟩
   refine wp_exit (Qae (Qae (Qak (Qaa ?_))));refine wr (pN 1 k z λa k=>nn (wp_ret (fS h k m z z)))
 exact ⟨0,k.keep [0,1,7,8] z,m.sl [] z,h⟩
theorem Qgb (fu:Nat) {w0:World} (Ab:List Pair) (f5:Pair→Option Bool) {v2:Value} {F3:List Nat} (Aa:rd w0 F3 [v2] Ab) {v6:Value} (Ae:Qun Tryz.prog w0 v6 f5) {r:Bool}
    (h:Qa5 fu Ab f5=some r) :
    Calls Tryz.prog 205 #[v2,v6] w0 λe w=>e=.returned (.bool (r))∧Ext [] w0 w:=by
 refine en (vs:=[_,_]) func205 z ntmps205 z λa k m=>?_;obtain ⟨Aj,Ak,rfl,Ad,Ag⟩:=Ae;unfold Qa5 at h;refine wr (pN 1 k z λa k=>nn (wr (pN 2 k z λa k=>oE h λAi Ah h=>cC k m call250 z (Qn6 fu _ _ (m.r Aa) ⟨_,_,z,Ad,λw Ac Af r e=>Ag w Ac Af r (m.ext.trans e (by simp))⟩ Ah) λAl e a k m=>pN 2 k z λa k=>nn (wp_ret (fS h k m z z)))))
theorem Qvv (fu:Nat) {w0:World} (p1:Pair)  {r:Bool}
    (h:Qjm fu p1=some r) :
    Calls Tryz.prog 206 #[.agg (Flat.e (p1)).toArray] w0 λe w=>e=.returned (.bool (r))∧Ext [] w0 w:=by
 refine en (vs:=[_]) func206 z ntmps206 z λa k m=>?_;unfold Qjm at h;refine wr (Qbv (cs:=[I p1.fA,I p1.fB]) m k z z z z z z λb2 w4 a k m e Ab=>pN 1 k z λa k=>nn (wr (fl Qxo t13 m 0 Ab k z z λa k=>oE h λx5 Ad h=>cC k m call42 z (Qbb fu _ _ _  Ad) λw9 e a k m=>pN 2 k z λa k=>Qal (!x5) (λAa=>?_) (λAa=>?_))))
 · have h:=Qav Aa h;refine rB k 7 z Aa λk=>pN 6 k z λa k=>nn (wp_ret (fS h k m z z))
 have h:=Qaw Aa h;refine rB k 7 z Aa λk=>fl Qxm t13 m 0 Ab k z z λa k=>oE h λAe Ac h=>cC k m call42 z (Qbb fu _ _ _  Ac) λAf e a k m=>pN 3 k z λa k=>nn (wp_ret (fS h k m z z))
theorem Qdo (fu:Nat) {w0:World} (Ab:List Typ) (f5:Typ→Option Bool) {v2:Value} {F3:List Nat} (Aa:rd w0 F3 [v2] Ab) {v6:Value} (Ae:Qun Tryz.prog w0 v6 f5) {r:Bool}
    (h:Qat fu Ab f5=some r) :
    Calls Tryz.prog 137 #[v2,v6] w0 λe w=>e=.returned (.bool (r))∧Ext [] w0 w:=by
 refine en (vs:=[_,_]) func137 z ntmps137 z λa k m=>?_;obtain ⟨Aj,Ak,rfl,Ad,Ag⟩:=Ae;unfold Qat at h;refine wr (pN 1 k z λa k=>nn (wr (pN 2 k z λa k=>oE h λAi Ah h=>cC k m call146 z (Qgz fu _ _ (m.r Aa) ⟨_,_,z,Ad,λw Ac Af r e=>Ag w Ac Af r (m.ext.trans e (by simp))⟩ Ah) λAl e a k m=>pN 2 k z λa k=>nn (wp_ret (fS h k m z z)))))
theorem Q1q (fu:Nat) {w0:World} (x1:Typ)  {r:Bool}
    (h:Qqn fu x1=some r) :
    Calls Tryz.prog 208 #[.agg (Flat.e (x1)).toArray] w0 λe w=>e=.returned (.bool (r))∧Ext [] w0 w:=by
 refine en (vs:=[_]) func208 z ntmps208 z λa k m=>?_;unfold Qqn at h;refine wr (Qbv (cs:=[I x1.f8,I x1.fW,I x1.fH,I x1.fD,I x1.fO,I x1.fQ,I x1.fL]) m k z z z z z z λb2 w4 a k m e Aa=>pN 1 k z λa k=>nn (wr (fl Qr7 t13 m 0 Aa k z z λa k=>oE h λx5 Ar h=>cC k m call42 z (Qbb fu _ _ _  Ar) λw9 e a k m=>pN 1 k z λa k=>Qal (x5) (λAd=>?_) (λAd=>?_))))
 · have h:=Qav Ad h;refine rB k 6 z Ad λk=>fl Qt2 t13 m 0 Aa k z z λa k=>oE h λAk Aq h=>cC k m call189 z (Qg6 fu _  Aq) λAw e a k m=>pN 2 k z λa k=>Qal (Ak) (λAf=>?_) (λAf=>?_)
   · have h:=Qav Af h;refine rB k 11 z Af λk=>fl Qtf t13 m 0 Aa k z z λa k=>oE h λAs Al h=>cC k m call189 z (Qg6 fu _  Al) λAz e a k m=>pN 2 k z λa k=>Qal (As) (λAg=>?_) (λAg=>?_)
     · have h:=Qav Ag h;refine rB k 16 z Ag λk=>fl Qt1 t13 m 0 Aa k z z λa k=>oE h λAp Ah h=>cC k m call189 z (Qg6 fu _  Ah) λBa e a k m=>pN 2 k z λa k=>Qal (Ap) (λAc=>?_) (λAc=>?_)
       · have h:=Qav Ac h;refine rB k 21 z Ac λk=>fl Q0a t13 m 0 Aa k z z λa k=>oE h λAo Ai h=>cC k m call42 z (Qbb fu _ _ _  Ai) λAy e a k m=>pN 2 k z λa k=>Qal (Ao) (λAb=>?_) (λAb=>?_)
         · have h:=Qav Ab h;refine rB k 26 z Ab λk=>fl Qu0 t13 m 0 Aa k z z λa k=>oE h λAm Aj h=>cC k m call42 z (Qbb fu _ _ _  Aj) λAv e a k m=>pN 2 k z λa k=>Qal (Am) (λAe=>?_) (λAe=>?_)
           · have h:=Qav Ae h;refine rB k 31 z Ae λk=>fl Qt9 t13 m 0 Aa k z z λa k=>oE h λAx At h=>cC k m call42 z (Qbb fu _ _ _  At) λAu e a k m=>pN 2 k z λa k=>?_;have k:=k.keep [2] z;refine nn (wp_ret (fS h k m z z))
           have h:=Qaw Ae h;refine rB k 31 z Ae λk=>pN 5 k z λa k=>?_;have k:=k.keep [2] z;refine nn (wp_ret (fS h k m z z))
         have h:=Qaw Ab h;refine rB k 26 z Ab λk=>pN 10 k z λa k=>?_;have k:=k.keep [2] z;refine nn (wp_ret (fS h k m z z))
       have h:=Qaw Ac h;refine rB k 21 z Ac λk=>pN 15 k z λa k=>?_;have k:=k.keep [2] z;refine nn (wp_ret (fS h k m z z))
     have h:=Qaw Ag h;refine rB k 16 z Ag λk=>pN 20 k z λa k=>?_;have k:=k.keep [2] z;refine nn (wp_ret (fS h k m z z))
   have h:=Qaw Af h;refine rB k 11 z Af λk=>pN 25 k z λa k=>?_;have k:=k.keep [2] z;refine nn (wp_ret (fS h k m z z))
 have h:=Qaw Ad h;refine rB k 6 z Ad λk=>pN 30 k z λa k=>?_;have k:=k.keep [2] z;refine nn (wp_ret (fS h k m z z))
theorem Qvx (fu:Nat) {w0:World} (t1:Typ)  {r:Bool}
    (h:Qi9 fu t1=some r) :
    Calls Tryz.prog 207 #[.agg (Flat.e (t1)).toArray] w0 λe w=>e=.returned (.bool (r))∧Ext [] w0 w:=by
 refine en (vs:=[_]) func207 z ntmps207 z λa k m=>?_;unfold Qi9 at h;refine wr (Qbv (cs:=[I t1.f8,I t1.fW,I t1.fH,I t1.fD,I t1.fO,I t1.fQ,I t1.fL]) m k z z z z z z λb2 w4 a k m e Aa=>pN 1 k z λa k=>nn (wr (sv k z (rL Qtd m 0 Aa 0 k z) λa k=>oE h λx5 Ab h=>cC k m call208 z (Q1q fu (t1:Typ)  Ab) λw9 e a k m=>pN 2 k z λa k=>nn (wp_ret (fS h k m z z)))))
theorem Q0w (fu:Nat) {w0:World} (x1:Item)  {r:Bool}
    (h:Qqi fu x1=some r) :
    Calls Tryz.prog 209 #[.agg (Flat.e (x1)).toArray] w0 λe w=>e=.returned (.bool (r))∧Ext [] w0 w:=by
 refine en (vs:=[_]) func209 z ntmps209 z λa k m=>?_;unfold Qqi at h;refine wr (Qbv (cs:=[I x1.f8,I x1.fW,I x1.fH,I x1.fD,I x1.fQ,I x1.fM,I x1.fF]) m k z z z z z z λb2 w4 a k m e Aa=>pN 1 k z λa k=>nn (wr (fl Qvg t13 m 0 Aa k z z λa k=>oE h λx5 Ar h=>cC k m call42 z (Qbb fu _ _ _  Ar) λw9 e a k m=>pN 1 k z λa k=>Qal (x5) (λAd=>?_) (λAd=>?_))))
 · have h:=Qav Ad h;refine rB k 6 z Ad λk=>fl Qvl t13 m 0 Aa k z z λa k=>oE h λAk Aq h=>cC k m call189 z (Qg6 fu _  Aq) λAw e a k m=>pN 2 k z λa k=>Qal (Ak) (λAf=>?_) (λAf=>?_)
   · have h:=Qav Af h;refine rB k 11 z Af λk=>fl Qvw t13 m 0 Aa k z z λa k=>oE h λAs Al h=>cC k m call189 z (Qg6 fu _  Al) λAz e a k m=>pN 2 k z λa k=>Qal (As) (λAg=>?_) (λAg=>?_)
     · have h:=Qav Ag h;refine rB k 16 z Ag λk=>fl Qvu t13 m 0 Aa k z z λa k=>oE h λAp Ah h=>cC k m call189 z (Qg6 fu _  Ah) λBa e a k m=>pN 2 k z λa k=>Qal (Ap) (λAc=>?_) (λAc=>?_)
       · have h:=Qav Ac h;refine rB k 21 z Ac λk=>fl Qtl t13 m 0 Aa k z z λa k=>oE h λAo Ai h=>cC k m call42 z (Qbb fu _ _ _  Ai) λAy e a k m=>pN 2 k z λa k=>Qal (Ao) (λAb=>?_) (λAb=>?_)
         · have h:=Qav Ab h;refine rB k 26 z Ab λk=>fl Qtg t13 m 0 Aa k z z λa k=>oE h λAm Aj h=>cC k m call42 z (Qbb fu _ _ _  Aj) λAv e a k m=>pN 2 k z λa k=>Qal (Am) (λAe=>?_) (λAe=>?_)
           · have h:=Qav Ae h;refine rB k 31 z Ae λk=>fl Qvr t13 m 0 Aa k z z λa k=>oE h λAx At h=>cC k m call42 z (Qbb fu _ _ _  At) λAu e a k m=>pN 2 k z λa k=>?_;have k:=k.keep [2] z;refine nn (wp_ret (fS h k m z z))
           have h:=Qaw Ae h;refine rB k 31 z Ae λk=>pN 5 k z λa k=>?_;have k:=k.keep [2] z;refine nn (wp_ret (fS h k m z z))
         have h:=Qaw Ab h;refine rB k 26 z Ab λk=>pN 10 k z λa k=>?_;have k:=k.keep [2] z;refine nn (wp_ret (fS h k m z z))
       have h:=Qaw Ac h;refine rB k 21 z Ac λk=>pN 15 k z λa k=>?_;have k:=k.keep [2] z;refine nn (wp_ret (fS h k m z z))
     have h:=Qaw Ag h;refine rB k 16 z Ag λk=>pN 20 k z λa k=>?_;have k:=k.keep [2] z;refine nn (wp_ret (fS h k m z z))
   have h:=Qaw Af h;refine rB k 11 z Af λk=>pN 25 k z λa k=>?_;have k:=k.keep [2] z;refine nn (wp_ret (fS h k m z z))
 have h:=Qaw Ad h;refine rB k 6 z Ad λk=>pN 30 k z λa k=>?_;have k:=k.keep [2] z;refine nn (wp_ret (fS h k m z z))
theorem Qx4 (fu:Nat) {w0:World} (r1:Request) {As:List Value} {F3:List Nat} (Bb:rd w0 F3 As r1) {r:Bool}
    (h:Qm8 fu r1=some r) :
    Calls Tryz.prog 132 #[.agg As.toArray] w0 λe w=>e=.returned (.bool (r))∧Ext [] w0 w:=by
 refine en (vs:=[_]) func132 z ntmps132 z λa k m=>?_;obtain ⟨v5,F6,v7,F8,v9,Cf,rfl,rfl,Ao,Am,Ac⟩:=Bb;unfold Qm8 at h;refine wr (Qbv (cs:=(cR r1 v5 v7 v9)) m k z z z z z z λAl Ar a k m e Aa=>pN 1 k z λa k=>nn (Qcw (λa w=>K 70 [(1,pt Al)] a∧St [] w0 w [([Al],Ar)]∧Ql6 fu r1=some r) ?_ ?_))
 · rintro a Bz ⟨k,m,h⟩;unfold Ql6 at h;refine wp_seq (wr (fl Qpx Q1d m 0 Aa k z z λa k=>oE h λBt Bm h=>cC k m call205 z (Qgb fu _ _ (m.r Ao) ⟨206,[],z,call206,λw Br Ce r e Ax hx=>by subst Ax; have m:=m.step e; exact Qvv fu _  hx⟩ Bm) λCl e a k m=>nn (cI h k rfl (λBc h=>?_) λBc h=>?_)))
   · refine wr (pN 1 k z λa k=>nn (wp_ret (Qad ?_)));refine fS h k m z z
   refine wp_skip (Qaa ?_);refine Qcw (λa w=>K 70 [(1,pt Al)] a∧St [] w0 w [([Al],Ar)]∧Qms fu r1=some r) ?_ ?_
   · rintro a Ch ⟨k,m,h⟩;unfold Qms at h;refine wr (pN 1 k z λa k=>nn (wp_seq (wr (fl Qhj Qu7 m 0 Aa k z z λa k=>sv k z (Qba (α:=Item) Ac k underlying28 z z) λa k=>pN 1 k z λa k=>nn (wp_block (Qas (λn a w=>∃ (Ak:Int) (Aj:Int),K 70 [(3,I Ak),(54,v9),(55,I (r1.fV.length:Int)),(56,I Aj)] a∧St [] w0 w []∧Qej fu r1 n Ak Aj=some r) ?_ ?_ fu _ _ ?_))))))
     · rintro a w ⟨_,_,_,_,h⟩;exact nS h
     · rintro Bu a Bx ⟨Ak,Aj,k,m,h⟩;rw [Qej.eq_2] at h;unfold Qit at h;refine wr (pN 1 k z λa k=>nn (wp_seq (cI h k z (λBo h=>?_) λBo h=>?_)))
       · refine wp_skip (Qaa ?_);refine wp_seq (wp_block (wr (oE h λAb Ap h=>sv k z (Qai Ac Ap k Qz8 z z z) λa k=>sv k z (Qnr Ac (m.a00 (Enc.rd_lt Ac)) Ap Qtt k z z) λa k=>Qay (cs:=[I 0,I 0,I 0,I 0,I 0,I 0,I 0]) m k zeroValue113 z z z z z λBv Ci a k m e Ay=>sT (cs':=[I Ab.f8,I Ab.fW,I Ab.fH,I Ab.fD,I Ab.fQ,I Ab.fM,I Ab.fF]) sizeOf113 m 0 Ay 0 k z z λCg a k e m Aq=>nn (wp_seq (wr (sv k z (rL Qtt m 0 Aq 0 k z) λa k=>oE h λBs Bk h=>cC k m call209 z (Q0w fu (Ab:Item)  Bk) λCc e a k m=>?_))))));refine pN 1 k z λa k=>nn (cI h k z (λBg h=>?_) λBg h=>?_)
         · refine wr (pN 1 k z λa k=>nn (wp_ret (Qad (Qag (Qad (Qad (Qag (Qad ?_))))))));refine fS h k m z z
         refine wp_skip (Qaa ?_);refine wp_region_lit (pN 1 k z λa k=>fl Qvr t13 m 0 Aq k z z λa k=>pN 2 k z λa k=>wpList_nil (Qaf (Qaa ?_)));refine wp_region_lit (pN 2 k z λa k=>nn ?_);exact ⟨w64 (Ak+Ab.fF),w64 (Aj+1),k.keep [3,54,55,56] z,m.sl [] z,h⟩
       refine wp_exit (Qae (Qae (Qak (Qaa ?_))));refine wr (pN 3 k z λa k=>nn (wp_ret (fS h k m z z)))
     exact ⟨0,0,k.keep [3,54,55,56] z,m.sl [] z,h⟩
   refine wr (fl Qhs Qve m 0 Aa k z z λa k=>sv k z (Qba (α:=Typ) Am k underlying27 z z) λa k=>oE h λAt Bl h=>cC k m call42 z (Qbb fu _ _ _  Bl) λCd e a k m=>pN 2 k z λa k=>Qal (!At) (λAg=>?_) (λAg=>?_))
   · have h:=Qav Ag h;refine rB k 36 z Ag λk=>pN 16 k z λa k=>?_;have k:=k.keep [1,52] z;refine nn (wp_cond_true (k.ev z) (wr (pN 1 k z λa k=>nn (wp_ret (Qad ?_)))));refine fS h k m z z
   have h:=Qaw Ag h;refine rB k 36 z Ag λk=>fl Qhs Qve m 0 Aa k z z λa k=>oE h λBn Av h=>cC k m call137 z (Qdo fu _ _ (m.r Am) ⟨207,[],z,call207,λw Cj Ck r e Bd hx=>by subst Bd; have m:=m.step e; exact Qvx fu _  hx⟩ Av) λCb e a k m=>pN 2 k rfl λa k=>Qal (Bn) (λAh=>?_) (λAh=>?_)
   · have h:=Qav Ah h;refine rB k 41 z Ah λk=>pN 11 k z λa k=>?_;have k:=k.keep [1,52] z;refine nn (wp_cond_true (k.ev z) (wr (pN 1 k z λa k=>nn (wp_ret (Qad ?_)))));refine fS h k m z z
   have h:=Qaw Ah h;refine rB k 41 z Ah λk=>fl Q0i t13 m 0 Aa k z z λa k=>oE h λAz Bj h=>cC k m call42 z (Qbb fu _ _ _  Bj) λBy e a k m=>pN 3 k z λa k=>Qal (!Az) (λAe=>?_) (λAe=>?_)
   · have h:=Qav Ae h;refine rB k 47 z Ae λk=>pN 5 k z λa k=>?_;have k:=k.keep [1,52] z;refine nn (wp_cond_true (k.ev z) (wr (pN 1 k z λa k=>nn (wp_ret (Qad ?_)))));refine fS h k m z z
   have h:=Qaw Ae h;refine rB k 47 z Ae λk=>fl Qhj Qu7 m 0 Aa k z z λa k=>sv k z (Qba (α:=Item) Ac k underlying28 z z) λa k=>pN 2 k z λa k=>?_;have k:=k.keep [1,52] z;refine nn (cI h k z (λBa h=>?_) λBa h=>?_)
   · refine wr (pN 1 k z λa k=>nn (wp_ret (Qad ?_)));refine fS h k m z z
   refine wp_skip (Qaa ?_);exact ⟨k.keep [1] z,m.sl [0] z,h⟩
 refine wr (fl Qx3 t13 m 0 Aa k z z λa k=>oE h λBh Bi h=>cC k m call42 z (Qbb fu _ _ _  Bi) λBw e a k m=>pN 2 k z λa k=>Qal (!Bh) (λAi=>?_) (λAi=>?_))
 · have h:=Qav Ai h;refine rB k 10 z Ai λk=>pN 17 k z λa k=>nn (wp_cond_true (k.ev z) (wr (pN 1 k z λa k=>?_)));have k:=k.keep [2] z;refine nn (wp_ret (Qad ?_));refine fS h k m z z
 have h:=Qaw Ai h;refine rB k 10 z Ai λk=>sv k z (Ql2 Qtx k z z) λa k=>sv k z (rL Qv2 m 0 Aa 1 k z) λa k=>oE h λBe Au h=>cC k m call149 z (Qqo fu (r1.fJ:Pallet)  Au) λBq e a k m=>pN 3 k z λa k=>Qal (!Be) (λAd=>?_) (λAd=>?_)
 · have h:=Qav Ad h;refine rB k 16 z Ad λk=>pN 11 k z λa k=>nn (wp_cond_true (k.ev z) (wr (pN 1 k z λa k=>?_)));have k:=k.keep [2] z;refine nn (wp_ret (Qad ?_));refine fS h k m z z
 have h:=Qaw Ad h;refine rB k 16 z Ad λk=>fl Qtc t13 m 0 Aa k z z λa k=>oE h λAw Bf h=>cC k m call42 z (Qbb fu _ _ _  Bf) λCa e a k m=>pN 3 k z λa k=>Qal (!Aw) (λAf=>?_) (λAf=>?_)
 · have h:=Qav Af h;refine rB k 22 z Af λk=>pN 5 k z λa k=>nn (wp_cond_true (k.ev z) (wr (pN 1 k z λa k=>?_)));have k:=k.keep [2] z;refine nn (wp_ret (Qad ?_));refine fS h k m z z
 have h:=Qaw Af h;refine rB k 22 z Af λk=>fl Qpx Q1d m 0 Aa k z z λa k=>sv k z (Qba (α:=Pair) Ao k underlying26 z z) λa k=>pN 2 k z λa k=>nn (cI h k z (λBp h=>?_) λBp h=>?_)
 · refine wr (pN 1 k z λa k=>?_);have k:=k.keep [2] z;refine nn (wp_ret (Qad ?_));refine fS h k m z z
 refine wp_skip (Qaa ?_);exact ⟨k.keep [1] z,m.sl [0] z,h⟩
theorem Qw4 (fu:Nat) {w0:World} (q1:Typ) (x2:Typ) {b3:Nat} (Aa:bx w0 b3 [I x2.f8,I x2.fW,I x2.fH,I x2.fD,I x2.fO,I x2.fQ,I x2.fL] 90) {r:Bool}
    (h:Qpl fu q1 x2=some r) :
    Calls Tryz.prog 210 #[.agg (Flat.e (q1)).toArray,pt b3] w0 λe w=>e=.returned (.bool (r))∧Ext [] w0 w:=by
 refine en (vs:=[_,_]) func210 z ntmps210 z λa k m=>?_;unfold Qpl at h;refine wr (Qbv (cs:=[I q1.f8,I q1.fW,I q1.fH,I q1.fD,I q1.fO,I q1.fQ,I q1.fL]) m k z z z z z z λb5 w7 a k m e Ab=>pN 1 k z λa k=>nn (wr (fl Qr7 t13 m 0 Ab k z z λa k=>sv k z (Ql2 Qr7 k z z) λa k=>sv k z (Qao t13 (r:=[]) (Aa.at (m.a00 Aa.lt1) 0 1 z z z) k z z) λa k=>pN 2 k z λa k=>nn (wp_ret (fS h k m z z)))))
theorem Qw7 (fu:Nat) {w0:World} (q1:Item) (x2:Item) {b3:Nat} (Aa:bx w0 b3 [I x2.f8,I x2.fW,I x2.fH,I x2.fD,I x2.fQ,I x2.fM,I x2.fF] 113) {r:Bool}
    (h:Qpf fu q1 x2=some r) :
    Calls Tryz.prog 211 #[.agg (Flat.e (q1)).toArray,pt b3] w0 λe w=>e=.returned (.bool (r))∧Ext [] w0 w:=by
 refine en (vs:=[_,_]) func211 z ntmps211 z λa k m=>?_;unfold Qpf at h;refine wr (Qbv (cs:=[I q1.f8,I q1.fW,I q1.fH,I q1.fD,I q1.fQ,I q1.fM,I q1.fF]) m k z z z z z z λb5 w7 a k m e Ab=>pN 1 k z λa k=>nn (wr (fl Qvg t13 m 0 Ab k z z λa k=>sv k z (Ql2 Qvg k z z) λa k=>sv k z (Qao t13 (r:=[]) (Aa.at (m.a00 Aa.lt1) 0 1 z z z) k z z) λa k=>pN 2 k z λa k=>nn (wp_ret (fS h k m z z)))))
theorem Qny (fu:Nat) {w0:World} (Ab:List Item) (f5:Item→Option Bool) {v2:Value} {F3:List Nat} (Aa:rd w0 F3 [v2] Ab) {v6:Value} (Ah:Qun Tryz.prog w0 v6 f5) {r:Int}
    (h:Qb5 fu Ab f5=some r) :
    Calls Tryz.prog 188 #[v2,v6] w0 λe w=>e=.returned (I r)∧Ext [] w0 w:=by
 refine en (vs:=[_,_]) func188 z ntmps188 z λa k m=>?_;obtain ⟨Af,Ag,rfl,Ae,Al⟩:=Ah;unfold Qb5 at h;refine wr (pN 1 k z λa k=>nn (wp_seq (wr (pN 1 k z λa k=>sv k z (Qba (α:=Item) Aa k underlying28 z z) λa k=>pN 1 k z λa k=>nn (wp_block (Qas (λn a w=>∃ (Ac:Int),K 19 [(0,v2),(1,(.func (.func Af) #[] Ag.toArray)),(7,I (Ab.length:Int)),(8,I Ac)] a∧St [] w0 w []∧Qa6 fu Ab f5 n Ac=some r) ?_ ?_ fu _ _ ?_))))))
 · rintro a w ⟨_,_,_,h⟩;exact nS h
 · rintro Ar a Ap ⟨Ac,k,m,h⟩;rw [Qa6.eq_2] at h;unfold Qcb at h;refine wr (pN 1 k z λa k=>nn (wp_seq (cI h k z (λAj h=>?_) λAj h=>?_)))
   · refine wp_skip (Qaa ?_);refine wp_seq (wp_block (wr (pN 2 k z λa k=>nn (wr (pN 3 k z λa k=>oE h λAo Ad h=>sv k z (Qai Aa Ad k Qz8 z z z) λa k=>sv k z (Qnr Aa (m.a00 (Enc.rd_lt Aa)) Ad Qtt k z z) λa k=>oE h λAq Ak h=>Qsk k Ae z z z z z z (Al _ _ _ _ m.ext z Ak) λAm As hR=>?_)))));obtain ⟨rfl,e⟩:=hR;refine ⟨_,z,λa k=>?_⟩;have m:=m.step e;refine nn (cI h k z (λAi h=>?_) λAi h=>?_)
     · refine wr (pN 2 k z λa k=>nn (wp_ret (Qag (Qad (Qad (Qag (Qad ?_)))))));refine fS h k m z z
     refine wp_skip (Qaf (Qaa ?_));refine wp_region_lit (pN 2 k z λa k=>nn ?_);exact ⟨w64 (Ac+1),k.keep [0,1,7,8] z,m.sl [] z,h⟩
   refine wp_exit (Qae (Qae (Qak (Qaa ?_))));refine wr (pN 1 k z λa k=>nn (wp_ret (fS h k m z z)))
 exact ⟨0,k.keep [0,1,7,8] z,m.sl [] z,h⟩
theorem Qdn (fu:Nat) {w0:World} (Ab:List Item) (f5:Item→Option Bool) {v2:Value} {F3:List Nat} (Aa:rd w0 F3 [v2] Ab) {v6:Value} (Ae:Qun Tryz.prog w0 v6 f5) {r:Bool}
    (h:Qa4 fu Ab f5=some r) :
    Calls Tryz.prog 98 #[v2,v6] w0 λe w=>e=.returned (.bool (r))∧Ext [] w0 w:=by
 refine en (vs:=[_,_]) func98 z ntmps98 z λa k m=>?_;obtain ⟨Aj,Ak,rfl,Ad,Ag⟩:=Ae;unfold Qa4 at h;refine wr (pN 1 k z λa k=>nn (wr (pN 2 k z λa k=>oE h λAi Ah h=>cC k m call188 z (Qny fu _ _ (m.r Aa) ⟨_,_,z,Ad,λw Ac Af r e=>Ag w Ac Af r (m.ext.trans e (by simp))⟩ Ah) λAl e a k m=>pN 2 k z λa k=>nn (wp_ret (fS h k m z z)))))
theorem Qwq (fu:Nat) {w0:World} (p1:Pair) (x2:Request) {v5:Value} {F6:List Nat} {v8:Value} {F9:List Nat} {Ad:Value} {Ae:List Nat} {b3:Nat} (Ab:bx w0 b3 (cR x2 v5 v8 Ad) 30) (Aj:rd w0 F6 [v5] x2.fR) (Ag:rd w0 F9 [v8] x2.fG) (Ah:rd w0 Ae [Ad] x2.fV) {r:Bool}
    (h:Qlo fu p1 x2=some r) :
    Calls Tryz.prog 212 #[.agg (Flat.e (p1)).toArray,pt b3] w0 λe w=>e=.returned (.bool (r))∧Ext [] w0 w:=by
 refine en (vs:=[_,_]) func212 z ntmps212 z λa k m=>?_;unfold Qlo at h;refine wr (Qbv (cs:=[I p1.fA,I p1.fB]) m k z z z z z z λAf Ai a k m e Ac=>pN 1 k z λa k=>nn (wr (fl Qxo t13 m 0 Ac k z z λa k=>sv k z (Ql2 Qtc k z z) λa k=>sv k z (Qao t13 (r:=[]) (Ab.at (m.a00 Ab.lt1) 5 1 z z z) k z z) λa k=>pN 2 k z λa k=>Qal (decide (p1.fA≥x2.fU)) (λAa=>?_) (λAa=>?_))))
 · have h:=Qav Aa h;refine rB k 9 z Aa λk=>pN 7 k z λa k=>nn (wp_ret (fS h k m z z))
 have h:=Qaw Aa h;refine rB k 9 z Aa λk=>fl Qxm t13 m 0 Ac k z z λa k=>sv k z (Ql2 Qtc k z z) λa k=>sv k z (Qao t13 (r:=[]) (Ab.at (m.a00 Ab.lt1) 5 1 z z z) k z z) λa k=>pN 3 k z λa k=>nn (wp_ret (fS h k m z z))
theorem Qzp (fu:Nat) {w0:World} (r1:Request) {As:List Value} {F3:List Nat} (Be:rd w0 F3 As r1) {r:Bool}
    (h:Qot fu r1=some r) :
    Calls Tryz.prog 133 #[.agg As.toArray] w0 λe w=>e=.returned (.bool (r))∧Ext [] w0 w:=by
 refine en (vs:=[_]) func133 z ntmps133 z λa k m=>?_;obtain ⟨v5,F6,v7,F8,v9,Ck,rfl,rfl,Ah,Aa,Ab⟩:=Be;unfold Qot at h;refine wr (Qbv (cs:=(cR r1 v5 v7 v9)) m k z z z z z z λAg Am a k m e Ae=>pN 1 k z λa k=>nn (wp_seq (wr (fl Qhs Qve m 0 Ae k z z λa k=>sv k z (Qba (α:=Typ) Aa k underlying27 z z) λa k=>pN 1 k z λa k=>nn (wp_block (Qas (λn a w=>∃ (Al:Int),K 59 [(1,pt Ag),(10,v7),(11,I (r1.fG.length:Int)),(12,I Al)] a∧St [] w0 w [([Ag],Am)]∧Qe2 fu r1 n Al=some r) ?_ ?_ fu _ _ ?_))))))
 · rintro a w ⟨_,_,_,h⟩;exact nS h
 · rintro Bt a Bx ⟨Al,k,m,h⟩;rw [Qe2.eq_2] at h;unfold Qk6 at h;refine wr (pN 1 k z λa k=>nn (wp_seq (cI h k z (λAu h=>?_) λAu h=>?_)))
   · refine wp_skip (Qaa ?_);refine wp_seq (wp_block (wr (pN 1 k z λa k=>oE h λAf Ar h=>sv k z (Qai Aa Ar k Q5i z z z) λa k=>sv k z (Qnr Aa (m.a00 (Enc.rd_lt Aa)) Ar Qtd k z z) λa k=>Qay (cs:=[I 0,I 0,I 0,I 0,I 0,I 0,I 0]) m k zeroValue90 z z z z z λBc Ca a k m e Bg=>pN 1 k z λa k=>sT (cs':=[I Af.f8,I Af.fW,I Af.fH,I Af.fD,I Af.fO,I Af.fQ,I Af.fL]) sizeOf90 m 0 Bg 0 k z z λCm a k e m Bl=>nn (wr (fl Qhs Qve m 1 Ae k z z λa k=>pN 1 k z λa k=>oE h λCl Bn h=>?_)))));refine Q4k Aa Bn k Q5i z z z z z z λBp a k Ap=>pN 1 k z λa k=>oE h λBq Bk h=>cC k m call137 z (Qdo fu _ _ (m.r Ap) ⟨210,[pt Bc],z,call210,λw Br Ce r e Ax hx=>by subst Ax; have m:=m.step e; exact Qw4 fu _ _ (Bl.agr (m.a 0 rfl) (by simp)) hx⟩ Bk) λCq e a k m=>nn (cI h k rfl (λAy h=>?_) λAy h=>?_)
     · refine wr (pN 1 k z λa k=>nn (wp_ret (Qag (Qad (Qad (Qag (Qad ?_)))))));refine fS h k m z z
     refine wp_skip (Qaf (Qaa ?_));refine wp_region_lit (pN 2 k z λa k=>nn ?_);exact ⟨w64 (Al+1),k.keep [1,10,11,12] z,m.sl [1] z,h⟩
   refine wp_exit (Qae (Qae (Qak (Qaa ?_))));refine wp_seq (wr (fl Qhj Qu7 m 0 Ae k z z λa k=>sv k z (Qba (α:=Item) Ab k underlying28 z z) λa k=>pN 1 k z λa k=>nn (wp_block (Qas (λn a w=>∃ (Ai:Int),K 59 [(1,pt Ag),(25,v9),(26,I (r1.fV.length:Int)),(27,I Ai)] a∧St [] w0 w [([Ag],Am)]∧Qdd fu r1 n Ai=some r) ?_ ?_ fu _ _ ?_))))
   · rintro a w ⟨_,_,_,h⟩;exact nS h
   · rintro Bm a Cn ⟨Ai,k,m,h⟩;rw [Qdd.eq_2] at h;unfold Qkm at h;refine wr (pN 1 k z λa k=>nn (wp_seq (cI h k z (λBo h=>?_) λBo h=>?_)))
     · refine wp_skip (Qaa ?_);refine Qcw (λa w=>K 59 [(1,pt Ag),(25,v9),(26,I (r1.fV.length:Int)),(27,I Ai)] a∧St [] w0 w [([Ag],Am)]∧Qob fu (Qdd fu r1 Bm) Ai=some r) ?_ ?_
       · rintro a Bw ⟨k,m,h⟩;unfold Qob at h;refine wp_region_lit (pN 2 k z λa k=>nn ?_);exact ⟨w64 (Ai+1),k.keep [1,25,26,27] z,m.sl [0] z,h⟩
       refine wp_block (wr (pN 1 k z λa k=>oE h λAc At h=>sv k z (Qai Ab At k Qz8 z z z) λa k=>sv k z (Qnr Ab (m.a00 (Enc.rd_lt Ab)) At Qtt k z z) λa k=>Qay (cs:=[I 0,I 0,I 0,I 0,I 0,I 0,I 0]) m k zeroValue113 z z z z z λBi Cj a k m e Az=>pN 1 k z λa k=>sT (cs':=[I Ac.f8,I Ac.fW,I Ac.fH,I Ac.fD,I Ac.fQ,I Ac.fM,I Ac.fF]) sizeOf113 m 0 Az 0 k z z λBu a k e m Ao=>nn (wr (fl Qtg t13 m 0 Ao k z z λa k=>?_))));refine fl Qtc t13 m 1 Ae k z z λa k=>pN 2 k z λa k=>Qal (decide (Ac.fM≥r1.fU)) (λAk=>?_) (λAk=>?_)
       · have h:=Qav Ak h;refine rB k 37 z Ak λk=>pN 7 k z λa k=>nn (wp_cond_true (k.ev z) (wr (pN 1 k z λa k=>nn (wp_ret (Qag (Qad (Qad (Qag (Qad ?_)))))))));refine fS h k m z z
       have h:=Qaw Ak h;refine rB k 37 z Ak λk=>fl Qhj Qu7 m 1 Ae k z z λa k=>pN 1 k z λa k=>oE h λBy Aw h=>Q4k Ab Aw k Qz8 z z z z z z λBs a k Aq=>pN 1 k z λa k=>oE h λCb Ba h=>cC k m call98 z (Qdn fu _ _ (m.r Aq) ⟨211,[pt Bi],z,call211,λw Cp Bz r e Bd hx=>by subst Bd; have m:=m.step e; exact Qw7 fu _ _ (Ao.agr (m.a 0 rfl) (by simp)) hx⟩ Ba) λCf e a k m=>pN 1 k rfl λa k=>nn (cI h k rfl (λAv h=>?_) λAv h=>?_)
       · refine wr (pN 1 k z λa k=>nn (wp_ret (Qag (Qad (Qad (Qag (Qad ?_)))))));refine fS h k m z z
       refine wp_skip (Qaf (Qaa ?_));exact ⟨k.keep [1,25,26,27] z,m.sl [1] z,h⟩
     refine wp_exit (Qae (Qae (Qak (Qaa ?_))));refine wr (sv k z (rL Qf7 m 0 Ae 0 k z) λa k=>oE h λAd Bj h=>cC k m call131 z (Qru fu _ (Qah (m.r Ah) (m.r Aa) (m.r Ab)) Bj) λCr e a k m=>pN 3 k z λa k=>Qay (cs:=[I 0,I 0,I 0,I 0,I 0,I 0,I 0]) m k zeroValue90 z z z z z λCs Cc a k m e Bb=>?_);refine sT (cs':=[I Ad.1.f8,I Ad.1.fW,I Ad.1.fH,I Ad.1.fD,I Ad.1.fO,I Ad.1.fQ,I Ad.1.fL]) sizeOf90 m 0 Bb 0 k z z λBv a k e m Ci=>pN 1 k z λa k=>nn (wr (pN 2 k z λa k=>Qal (Ad.2) (λAj=>?_) (λAj=>?_)))
     · have h:=Qav Aj h;refine rB k 52 z Aj λk=>fl Qpx Q1d m 1 Ae k z z λa k=>pN 1 k z λa k=>oE h λCd Bf h=>cC k m call205 z (Qgb fu _ _ (m.r Ah) ⟨212,[pt Ag],z,call212,λw Cg Co r e Bh hx=>by subst Bh; have m:=m.step e; exact Qwq fu _ _ (Ae.agr (m.a 1 rfl) (by simp)) (m.r Ah) (m.r Aa) (m.r Ab) hx⟩ Bf) λCh e a k m=>pN 3 k rfl λa k=>nn (wp_ret (fS h k m rfl rfl))
     have h:=Qaw Aj h;refine rB k 52 z Aj λk=>pN 7 k z λa k=>nn (wp_ret (fS h k m z z))
   exact ⟨0,k.keep [1,25,26,27] z,m.sl [0] z,h⟩
 exact ⟨0,k.keep [1,10,11,12] z,m.sl [0] z,h⟩
end Go.Proofs.YtpcmapfabndggaaGreatDoor
