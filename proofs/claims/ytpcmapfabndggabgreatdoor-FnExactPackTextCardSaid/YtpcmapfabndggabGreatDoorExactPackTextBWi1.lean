/- FnExactPackText: the.. -/
import Derived.Test.YtpcmapfabndggabGreatDoorExactPackTextBT
set_option maxRecDepth 20000
set_option linter.unusedSimpArgs false
set_option linter.unusedVariables false
set_option linter.unnecessarySimpa false
namespace Go.Proofs.YtpcmapfabndggabGreatDoor
open Go Go.RowKit
open Enc (rd ow)
open Arg (argv)
open Ret (retv)
open Go.Proofs.Tryz
theorem Qv9 (fu:Nat) {w0:World} (Ac:ByteArray) (Ab:Int)  {r:(List ByteArray)}
    (h:Qp1 fu Ac Ab=some r) :
    Calls Tryz.prog 26 #[.string (Ac),.int .u8 (Ab)] w0 λe w=>∃ (v0:Value) (G0:List Nat),e=.returned (v0)∧Ext [] w0 w∧ow w G0 [v0] r∧(∀ b∈G0,w0.heap.size≤b):=by
 refine en (vs:=[_,_]) func26 z ntmps26 z λa k m=>?_;unfold Qp1 at h;refine wr (pN 1 k z λa k=>nn (wr (sB (cs:=[]) (ps:=[]) Q6f m k z (by exact fN) λg3 w4 e6 a k m e Bd=>?_)));have Aw:=Qbe Bd ([]:List ByteArray) z z z;refine pN 1 k z λa k=>nn (wr (pN 1 k z λa k=>nn (wp_seq (wr (pN 1 k z λa k=>nn (wp_block (Qaq (λn a w=>∃ (Am:List ByteArray) (Af:Value) (Al:List Nat) (Ah:World) (Ai:Int) (Aa:Int),K 35 [(0,.string (Ac)),(1,.int .u8 (Ab)),(5,Af),(6,I Ai),(7,I Aa)] a∧St [] w0 w [(Al,Ah)]∧ow Ah Al [Af] Am∧Qgx fu Ac Ab n Am Ai Aa=some r) ?_ ?_ fu _ _ ?_)))))))
 · rintro a w ⟨_,_,_,_,_,_,_,_,_,h⟩;exact nS h
 · rintro Au a Bu ⟨Am,Af,Al,Ah,Ai,Aa,k,m,Ao,h⟩;rw [Qgx.eq_2] at h;unfold Qnv at h;refine wp_seq (wr (pN 2 k z λa k=>sv k z (Qxo k underlying9 z z) λa k=>pN 1 k z λa k=>nn (cI h k z (λAy h=>?_) λAy h=>?_)))
   · refine wp_skip (Qaa ?_);refine Qcw (λa w=>∃ (Ag:List ByteArray) (Ad:Value) (Ak:List Nat) (Ae:World) (Aj:Int),K 35 [(0,.string (Ac)),(1,.int .u8 (Ab)),(5,Ad),(6,I Aj),(7,I Aa)] a∧St [] w0 w [(Ak,Ae)]∧ow Ae Ak [Ad] Ag∧Qnk fu (Qgx fu Ac Ab Au) Aa Ag Aj=some r) ?_ ?_
     · rintro a Bx ⟨Ag,Ad,Ak,Ae,Aj,k,m,Bm,h⟩;unfold Qnk at h;refine wp_region_lit (pN 3 k z λa k=>nn ?_);exact ⟨Ag,Ad,Ak,Ae,Aj,w64 (Aa+1),k.keep [0,1,5,6,7] z,m.sl [0] z,Bm,h⟩
     refine wp_block (wr (pN 2 k z λa k=>oE h λBp Bi h=>sv k z (Q8z Bi k underlying9 z z z) λa k=>pN 2 k z λa k=>nn (cI h k z (λAt h=>?_) λAt h=>?_)))
     · refine wr (pN 4 k z λa k=>oE h λAp Bk h=>sv k z (Jdh Bk k underlying9 z z z z) λa k=>sB (cs:=[.string (Ap)]) (ps:=[(0,.tmp 24)]) Q6f m k z (by exact fC z fN) λBq By Bn a k m e Ax=>?_);have Ba:=Qbe Ax ([Ap]:List ByteArray) z z z;refine oE h λBl Av h=>Qfi Av Q6f z m 1 Ao (News.rd (m.q Ba 0 z)) z z k z z z z z z z λAz Ar Bg a k e m As=>pN 1 k z λa k=>nn (wp_region_lit (pN 3 k z λa k=>wpList_nil (Qaf (Qaa ?_))));exact ⟨Bl,Az,Ar,Bg,w64 (Aa+1),k.keep [0,1,5,6,7] z,m.sl [1] z,As,h⟩
     refine wp_skip (Qaf (Qaa ?_));exact ⟨Am,Af,Al,Ah,Ai,k.keep [0,1,5,6,7] z,m.sl [0] z,Ao,h⟩
   refine wp_exit (Qae (Qae (Qak (Qaa ?_))));refine wr (pN 3 k z λa k=>oE h λAq Bf h=>sv k z (Jd0 Bf k underlying9 z z z) λa k=>sB (cs:=[.string (Aq)]) (ps:=[(0,.tmp 32)]) Q6f m k z (by exact fC z fN) λBt Bs Bv a k m e Be=>?_);have Bh:=Qbe Be ([Aq]:List ByteArray) z z z;refine oE h λBr Bj h=>Qfi Bj Q6f z m 1 Ao (News.rd (m.q Bh 0 z)) z z k z z z z z z z λBo Bc Bw a k e m Bb=>pN 1 k z λa k=>nn (wp_ret ?_);cases h;exact Qco k z (RV.tmp k z) ⟨_,Bc,z,m.ext,(m.v Bb 1 z),(m.fresh 1 z)⟩
 exact ⟨([]:List ByteArray),(.slice (some ⟨g3,0,none⟩) 0 0),[g3],w4,0,0,k.keep [0,1,5,6,7] z,m.sl [0] z,Aw,h⟩
theorem Qzi (fu:Nat) {w0:World} (hT:Te Tryz.prog w0) (x1:ByteArray) {r:Int×Bool}
    (h:Qsr fu x1=some r) :
    Calls Tryz.prog 76 #[.string x1] w0 λe w=>∃ (v0:Value),e=.returned (.tuple #[I r.1,v0])∧Ext [] w0 w∧isErr v0 r.2 :=
  Jes (λs h1 v h2 w=>Tryz.strconv_Atoi_ok s h1 v h2 w) (λs h1 h2 tp p w hv=>(Tryz.strconv_Atoi_syntax_var s h1 h2 tp p w hv).mono λe w ⟨n,he,_,_,hb⟩=>⟨_,_,he,hb⟩) (λs h1 h2 tp p w hv=>(Tryz.strconv_Atoi_range_var s h1 h2 tp p w hv).mono λe w ⟨n,he,_,_,hb⟩=>⟨_,_,he,hb⟩) hT x1 h
theorem Qa9 (fu:Nat) {w0:World} (n1:Int) (Ab:Int) (Ac:Int)  {r:Bool}
    (h:Qay fu n1 Ab Ac=some r) :
    Calls Tryz.prog 48 #[I n1,I Ab,I Ac] w0 λe w=>e=.returned (.bool (r))∧Ext [] w0 w:=by
 refine en (vs:=[_,_,_]) func48 z ntmps48 z λa k m=>?_;unfold Qay at h;refine wr (pN 1 k z λa k=>nn (wr (pN 4 k z λa k=>Qal (decide (n1≥Ab)) (λAa=>?_) (λAa=>?_))))
 · have h:=Qax Aa h;refine rB k 10 z Aa λk=>pN 5 k z λa k=>nn (wp_ret (fS h k m z z))
 have h:=Qav Aa h;refine rB k 10 z Aa λk=>pN 5 k z λa k=>nn (wp_ret (fS h k m z z))
theorem Qzc (fu:Nat) {w0:World} (hT:Te Tryz.prog w0) (x1:Int) {r:ByteArray}
    (h:Qsp fu x1=some r) :
    Calls Tryz.prog 75 #[I x1] w0 λe w=>e=.returned (.string r)∧Ext [] w0 w :=
  Jfk (λn h0 h1 w ht=>Tryz.strconv_Itoa n h0 h1 w ht) hT.t x1 h
theorem Qvk (fu:Nat) {w0:World} (hT:Te Tryz.prog w0) (n1:Int)  {r:ByteArray}
    (h:Qnx fu n1=some r) :
    Calls Tryz.prog 51 #[I n1] w0 λe w=>e=.returned (.string (r))∧Ext [] w0 w:=by
 refine en (vs:=[_]) func51 z ntmps51 z λa k m=>?_;unfold Qnx at h;refine wr (pN 1 k z λa k=>nn (wr (pN 1 k z λa k=>oE h λx2 Aa h=>cC k m call75 z (Qzc fu (m.te hT) _  Aa) λw5 e a k m=>pN 1 k z λa k=>nn (wp_ret (fS h k m z z)))))
theorem Q1f (fu:Nat) {w0:World} (hT:Te Tryz.prog w0) (Ac:ByteArray)  {r:Int×Bool}
    (h:Qh5 fu Ac=some r) :
    Calls Tryz.prog 54 #[.string (Ac)] w0 λe w=>e=.returned (.tuple #[I r.1,.bool (r.2)])∧Ext [] w0 w:=by
 refine en (vs:=[_]) func54 z ntmps54 z λa k m=>?_;unfold Qh5 at h;refine wr (pN 2 k z λa k=>nn (wr (pN 1 k z λa k=>oE h λx2 Ad h=>sC k call76 z (Qzi fu (m.te hT) _  Ad) λe4 w5 hR=>?_)));obtain ⟨v6,rfl,e,Ae⟩:=hR;refine ⟨_,z,λa k=>?_⟩;have m:=m.step e;refine pN 5 k z λa k=>nn (Qcw (λa w=>K 25 [(4,I x2.1)] a∧St [] w0 w []∧Qpj fu x2=some r) ?_ ?_)
 · rintro a Ak ⟨k,m,h⟩;unfold Qpj at h;refine wr (pN 3 k z λa k=>nn (wp_ret ?_));cases h;exact Qf6 k z (RV.tmp k z) (RV.tmp k z) ⟨z,m.ext⟩
 refine wr (pN 1 k z λa k=>sv k z (Jhs Ae k (by kernel_rfl) z z z) λa k=>pN 1 k z λa k=>Qal (x2.2) (λAb=>?_) (λAb=>?_))
 · have h:=Qax Ab h;refine rB k 13 z Ab λk=>pN 10 k z λa k=>nn (wp_cond_true (k.ev z) (wr (pN 2 k z λa k=>nn (wp_ret (Qad ?_)))));cases h;exact Qf6 k z (RV.tmp k z) (RV.tmp k z) ⟨z,m.ext⟩
 have h:=Qav Ab h;refine rB k 13 z Ab λk=>pN 1 k z λa k=>oE h λAh Ag h=>cC k m call48 z (Qa9 fu _ _ _  Ag) λAl e a k m=>pN 3 k z λa k=>Qal (!Ah) (λAa=>?_) (λAa=>?_)
 · have h:=Qax Aa h;refine rB k 18 z Aa λk=>pN 5 k z λa k=>nn (wp_cond_true (k.ev z) (wr (pN 2 k z λa k=>nn (wp_ret (Qad ?_)))));cases h;exact Qf6 k z (RV.tmp k z) (RV.tmp k z) ⟨z,m.ext⟩
 have h:=Qav Aa h;refine rB k 18 z Aa λk=>pN 1 k z λa k=>oE h λAm Ai h=>cC k m call51 z (Qvk fu (m.te hT) _  Ai) λAj e a k m=>pN 3 k z λa k=>nn (cI h k z (λAf h=>?_) λAf h=>?_)
 · refine wr (pN 2 k z λa k=>nn (wp_ret (Qad ?_)));cases h;exact Qf6 k z (RV.tmp k z) (RV.tmp k z) ⟨z,m.ext⟩
 refine wp_skip (Qaa ?_);exact ⟨k.keep [4] z,m.sl [] z,h⟩
theorem Qlz (fu:Nat) {w0:World} (hT:Te Tryz.prog w0) (Ap:ByteArray) (Ai:ByteArray) (Am:Int)  {r:(List Int)×Bool}
    (h:Qcd fu Ap Ai Am=some r) :
    Calls Tryz.prog 35 #[.string (Ap),.string (Ai),I Am] w0 λe w=>∃ (v0:Value) (G0:List Nat),e=.returned (.tuple #[v0,.bool (r.2)])∧Ext [] w0 w∧ow w G0 [v0] r.1∧(∀ b∈G0,w0.heap.size≤b):=by
 refine en (vs:=[_,_,_]) func35 z ntmps35 z λa k m=>?_;unfold Qcd at h;refine wr (pN 2 k z λa k=>nn (wr (pN 1 k z λa k=>oE h λx4 Ba h=>sC k call26 z (Qv9 fu _ _  Ba) λe6 w7 hR=>?_)));obtain ⟨Bc,F8,rfl,e,Aa,Bf⟩:=hR;refine ⟨_,z,λa k=>?_⟩;have m:=m.nw e Bf Aa;refine pN 1 k z λa k=>nn (Qcw (λa w=>K 49 [(8,Bc)] a∧St [] w0 w [(F8,w7)]∧Qob fu x4=some r) ?_ ?_)
 · rintro a Bu ⟨k,m,h⟩;unfold Qob at h;refine wr (sB (cs:=[]) (ps:=[]) Qcc m k z (by exact fN) λAk Be Bs a k m e Bk=>?_);have Bl:=Qbe Bk ([]:List Int) z z z;refine pN 1 k z λa k=>nn (wp_seq (wr (pN 1 k z λa k=>oE h λAj Bj h=>Q8u Aa Bj k Q3z z z z z z z λAu a k Ae=>sv k z (Qba (α:=ByteArray) (Enc.ow_rd Ae) k underlying58 z z) λa k=>pN 1 k z λa k=>nn (wp_block (Qaq (λn a w=>∃ (Af:List Int) (Ag:Value) (Ac:List Nat) (Ah:World) (Ad:Int),K 49 [(9,Ag),(30,Au),(31,I (Aj.length:Int)),(32,I Ad)] a∧St [] w0 w [(F8,w7),(Ac,Ah)]∧ow Ah Ac [Ag] Af∧Qe6 fu Aj n Af Ad=some r) ?_ ?_ fu _ _ ?_)))))
   · rintro a w ⟨_,_,_,_,_,_,_,_,h⟩;exact nS h
   · rintro Bo a Bt ⟨Af,Ag,Ac,Ah,Ad,k,m,Al,h⟩;rw [Qe6.eq_2] at h;unfold Qkn at h;refine wr (pN 1 k z λa k=>nn (wp_seq (cI h k z (λBh h=>?_) λBh h=>?_)))
     · refine wp_skip (Qaa ?_);refine wp_seq (wp_block (wr (oE h λBr Aq h=>sv k z (Qai (Enc.ow_rd Ae) Aq k Q3z z z z) λa k=>sv k z (Qaj (Enc.ow_rd Ae) (m.a 0 z) Aq 0 t19 k z z z z) λa k=>pN 1 k z λa k=>nn (wr (pN 1 k z λa k=>oE h λAr At h=>cC k m call54 z (Q1f fu (m.te hT) _  At) λBn e a k m=>pN 5 k z λa k=>nn (wp_seq (wr (pN 2 k z λa k=>nn (cI h k z (λAy h=>?_) λAy h=>?_)))))))))
       · refine wr (pN 2 k z λa k=>nn (wp_ret (Qad (Qag (Qad (Qad (Qag (Qad ?_))))))));cases h;exact Qf6 k z (RV.tmp k z) (RV.tmp k z) ⟨_,[],z,m.ext,(Qbr _),(by simp)⟩
       refine wp_skip (Qaa ?_);refine wp_region_lit (pN 2 k z λa k=>sB (cs:=[I Ar.1]) (ps:=[(0,.tmp 44)]) Qcc m k z (by exact fC z fN) λBv Bq Bp a k m e Ax=>?_);have Az:=Qbe Ax ([Ar.1]:List Int) z z z;refine oE h λBm Bi h=>Qfi Bi Qcc z m 2 Al (News.rd (m.q Az 0 z)) z z k z z z z z z z λAs Aw Bg a k e m Bb=>pN 1 k z λa k=>wpList_nil (Qaf (Qaa ?_));refine wp_region_lit (pN 2 k z λa k=>nn ?_);exact ⟨Bm,As,Aw,Bg,w64 (Ad+1),k.keep [9,30,31,32] z,m.sl [1,2] z,Bb,h⟩
     refine wp_exit (Qae (Qae (Qak (Qaa ?_))));refine wr (pN 3 k z λa k=>nn (wp_ret ?_));cases h;exact Qf6 k z (RV.tmp k z) (RV.tmp k z) ⟨_,Ac,z,m.ext,(m.v Al 1 z),(m.fresh 1 z)⟩
   exact ⟨([]:List Int),(.slice (some ⟨Ak,0,none⟩) 0 0),[Ak],Be,0,k.keep [9,30,31,32] z,m.sl [1,0] z,Bl,h⟩
 refine wr (pN 1 k z λa k=>oE h λAv Ao h=>sv k z (Qai (Enc.ow_rd Aa) Ao k Q3z z z z) λa k=>sv k z (Qaj (Enc.ow_rd Aa) (m.a 0 z) Ao 0 t19 k z z z z) λa k=>pN 3 k z λa k=>Qal (!(Av.toList==Ai.toList)) (λAb=>?_) (λAb=>?_))
 · have h:=Qax Ab h;refine rB k 21 z Ab λk=>pN 6 k z λa k=>nn (wp_cond_true (k.ev z) (wr (pN 2 k z λa k=>nn (wp_ret (Qad ?_)))));cases h;exact Qf6 k z (RV.tmp k z) (RV.tmp k z) ⟨_,[],z,m.ext,(Qbr _),(by simp)⟩
 have h:=Qav Ab h;refine rB k 21 z Ab λk=>pN 1 k z λa k=>sv k z (Qba (α:=ByteArray) (Enc.ow_rd Aa) k underlying58 z z) λa k=>pN 4 k z λa k=>nn (cI h k z (λBd h=>?_) λBd h=>?_)
 · refine wr (pN 2 k z λa k=>nn (wp_ret (Qad ?_)));cases h;exact Qf6 k z (RV.tmp k z) (RV.tmp k z) ⟨_,[],z,m.ext,(Qbr _),(by simp)⟩
 refine wp_skip (Qaa ?_);exact ⟨k.keep [8] z,m.sl [0] z,h⟩
theorem Qy5 (fu:Nat) {w0:World} (r1:Request) (Ce:ByteArray) {F2:List Nat} {b3:Nat} (Dd:obx w0 F2 b3 r1 53) (hT:∀ w1,Ext F2 w0 w1→Te Tryz.prog w1) {r:Int×Request}
    (h:Qpc fu r1 Ce=some r) :
    Calls Tryz.prog 63 #[.pointer (some ⟨b3,0,none⟩),.string (Ce)] w0 λe w=>∃ (H0:List Nat),e=.returned (I r.1)∧Ext F2 w0 w∧(∀ b∈H0,b∈F2∨w0.heap.size≤b)∧obx w H0 b3 r.2 53:=by
 refine enter (vs:=[_,_]) func63 z ntmps63 z λa k=>?_;obtain ⟨v6,F7,v9,Ae,Aj,Ad,Aa,Af,Ah,Ag,m⟩:=Dd.start;unfold Qpc at h;refine wr (pN 1 k z λa k=>nn (wp_seq (wr (pN 1 k z λa k=>nn (wp_block (wr (pN 2 k z λa k=>nn (cI h k z (λEd h=>?_) λEd h=>?_))))))))
 · refine wr (pN 1 k z λa k=>sv k z (Qli k z z) λa k=>sv k z (Ql3 Qyl k z z) λa k=>sT (cs':=[I 0,I r1.fJ.fW,I r1.fJ.fD,I r1.fJ.fH,I r1.fJ.fQ,I r1.fU,v6,v9,I r1.fT,Aj]) sizeOf3 m 0 Aa 0 k z z λGp a k e m Fw=>nn (wr (pN 1 k z λa k=>nn (wp_ret (Qag (Qad ?_))))));cases h;exact Qco k z (RV.tmp k z) ⟨([b3]++(F7++(Ae++Ad))),z,m.ext,(λb hb=>(m.sl [0,1,2,3] z).lo b (by simpa [fps] using hb)),(obx.fin (x:=(⟨0,r1.fJ,r1.fU,r1.fR,r1.fG,r1.fT,r1.fV⟩:Request)) (m.y Fw 0 z) (m.v Af 1 z) (m.v Ah 2 z) (m.v Ag 3 z) (by simpa [fps] using (m.sl [0,1,2,3] z).nd))⟩
 refine wr (pN 2 k z λa k=>nn (cI h k z (λCt h=>?_) λCt h=>?_))
 · refine wr (pN 1 k z λa k=>sv k z (Qli k z z) λa k=>sv k z (Ql3 Qyl k z z) λa k=>sT (cs':=[I 1,I r1.fJ.fW,I r1.fJ.fD,I r1.fJ.fH,I r1.fJ.fQ,I r1.fU,v6,v9,I r1.fT,Aj]) sizeOf3 m 0 Aa 0 k z z λGh a k e m Dn=>nn (wr (pN 1 k z λa k=>nn (wp_ret (Qag (Qad ?_))))));cases h;exact Qco k z (RV.tmp k z) ⟨([b3]++(F7++(Ae++Ad))),z,m.ext,(λb hb=>(m.sl [0,1,2,3] z).lo b (by simpa [fps] using hb)),(obx.fin (x:=(⟨1,r1.fJ,r1.fU,r1.fR,r1.fG,r1.fT,r1.fV⟩:Request)) (m.y Dn 0 z) (m.v Af 1 z) (m.v Ah 2 z) (m.v Ag 3 z) (by simpa [fps] using (m.sl [0,1,2,3] z).nd))⟩
 refine wp_skip (Qaf (Qaa ?_));refine wp_seq (wr (pN 1 k z λa k=>oE h λHg Ek h=>sC k call35 z (Qlz fu (hT _ m.ext) _ _ _  Ek) λIr Gv hR=>?_));obtain ⟨Gq,Ei,rfl,e,Ai,Df⟩:=hR;refine ⟨_,z,λa k=>?_⟩;have m:=m.nw e Df Ai;refine pN 5 k z λa k=>nn (wr (pN 1 k z λa k=>nn (cI h k z (λDz h=>?_) λDz h=>?_)))
 · refine wp_seq (Qjp ([b3]) Qjh m z λCy hMd=>?_);have m:=hMd;have s:=Ext.refl (([b3]):List Nat) Cy;refine dM [0,1,4,7,10] 5 z k z s λa k=>oE h λBe Cb h=>dT k 2 z z s (λw s=>Qai (Enc.ow_rd Ai) Cb k Qdq z z z) λa k=>dT k 3 z z s (λw s=>Qaj (Enc.ow_rd Ai) (hMd.az 0 1 z z z s) Cb 0 t13 k z z z z) λa k=>oE h λBh Cg h=>dT k 5 z z s (λw s=>Qai (Enc.ow_rd Ai) Cg k Qdq z z z) λa k=>dT k 6 z z s (λw s=>Qaj (Enc.ow_rd Ai) (hMd.az 0 1 z z z s) Cg 0 t13 k z z z z) λa k=>oE h λBi Cf h=>dT k 8 z z s (λw s=>Qai (Enc.ow_rd Ai) Cf k Qdq z z z) λa k=>?_;refine dT k 9 z z s (λw s=>Qaj (Enc.ow_rd Ai) (hMd.az 0 1 z z z s) Cf 0 t13 k z z z z) λa k=>oE h λBk Bs h=>dT k 11 z z s (λw s=>Qai (Enc.ow_rd Ai) Bs k Qdq z z z) λa k=>dT k 12 z z s (λw s=>Qaj (Enc.ow_rd Ai) (hMd.az 0 1 z z z s) Bs 0 t13 k z z z z) λa k=>dT k 13 z z s (λw s=>Qbb Jim k (cs:=#[I Be,I Bh,I Bi,I Bk]) (ps:=[(0,.tmp 37),(1,.tmp 40),(2,.tmp 43),(3,.tmp 46)]) z z (by kernel_rfl)) λa k=>dT k 14 z z s (λw s=>Qli k z z) λa k=>?_
   refine dF k 15 Qty z s λa k=>dO 16 z (sT (cs':=[I r1.fe,I Be,I Bh,I Bi,I Bk,I r1.fU,v6,v9,I r1.fT,Aj]) sizeOf48 m 1 Aa 1 k z z λHr a k e m Dk=>?_);have s:=s.trans e (λy hy=>Or.inl hy);refine wpList_nil ⟨s,?_⟩;refine dD ?_;have k:=k.keep [] z;refine (Qaa ?_);refine wr (pN 1 k z λa k=>nn (wp_ret (Qad ?_)));cases h;exact Qco k z (RV.tmp k z) ⟨([b3]++(F7++(Ae++Ad))),z,m.ext,(λb hb=>(m.sl [1,2,3,4] z).lo b (by simpa [fps] using hb)),(obx.fin (x:=(⟨r1.fe,(⟨Be,Bh,Bi,Bk⟩:Pallet),r1.fU,r1.fR,r1.fG,r1.fT,r1.fV⟩:Request)) (m.y Dk 1 z) (m.v Af 2 z) (m.v Ah 3 z) (m.v Ag 4 z) (by simpa [fps] using (m.sl [1,2,3,4] z).nd))⟩
 refine wp_skip (Qaa ?_);refine wp_seq (wr (pN 1 k z λa k=>oE h λId Eh h=>sC k call35 z (Qlz fu (hT _ m.ext) _ _ _  Eh) λIv Ge hR=>?_));obtain ⟨Hy,Ec,rfl,e,Bd,Di⟩:=hR;refine ⟨_,z,λa k=>?_⟩;have m:=m.nw e Di Bd;refine pN 5 k z λa k=>nn (wr (pN 1 k z λa k=>nn (cI h k z (λFk h=>?_) λFk h=>?_)))
 · refine wr (pN 2 k z λa k=>oE h λBr Bx h=>sv k z (Qai (Enc.ow_rd Bd) Bx k Qdq z z z) λa k=>sv k z (Qaj (Enc.ow_rd Bd) (m.a 0 z) Bx 0 t13 k z z z z) λa k=>sv k z (Qli k z z) λa k=>sv k z (Ql3 Qtd k z z) λa k=>sT (cs':=[I r1.fe,I r1.fJ.fW,I r1.fJ.fD,I r1.fJ.fH,I r1.fJ.fQ,I Br,v6,v9,I r1.fT,Aj]) sizeOf3 m 2 Aa 5 k z z λIi a k e m Fc=>?_);have k:=k.keep [] z;refine nn (wr (pN 1 k z λa k=>nn (wp_ret (Qad ?_))));cases h;exact Qco k z (RV.tmp k z) ⟨([b3]++(F7++(Ae++Ad))),z,m.ext,(λb hb=>(m.sl [2,3,4,5] z).lo b (by simpa [fps] using hb)),(obx.fin (x:=(⟨r1.fe,r1.fJ,Br,r1.fR,r1.fG,r1.fT,r1.fV⟩:Request)) (m.y Fc 2 z) (m.v Af 3 z) (m.v Ah 4 z) (m.v Ag 5 z) (by simpa [fps] using (m.sl [2,3,4,5] z).nd))⟩
 refine wp_skip (Qaa ?_);refine wp_seq (wr (pN 1 k z λa k=>oE h λIb Er h=>sC k call35 z (Qlz fu (hT _ m.ext) _ _ _  Er) λHl Gi hR=>?_));obtain ⟨Gm,Db,rfl,e,Ak,Fl⟩:=hR;refine ⟨_,z,λa k=>?_⟩;have m:=m.nw e Fl Ak;refine pN 5 k z λa k=>?_;have k:=k.keep [1,0,9,10] z;refine nn (wr (pN 1 k z λa k=>nn (cI h k z (λFj h=>?_) λFj h=>?_)))
 · refine wp_seq (Qjp (F7++([b3])) Qjh m z λGa hMd=>?_);have m:=hMd;have s:=Ext.refl ((F7++([b3])):List Nat) Ga;have hMj:=(hMd.sel [4,3,0,1,2,5,6] z (by decide)).join2;refine dM [0,1,5,8] 4 z k z s λa k=>dT k 2 z z s (λw s=>Qli k z z) λa k=>dF k 3 Qp2 z s λa k=>oE h λAl Cj h=>dT k 6 z z s (λw s=>Qai (Enc.ow_rd Ak) Cj k Qdq z z z) λa k=>dT k 7 z z s (λw s=>Qaj (Enc.ow_rd Ak) (hMj.az 1 0 z z z s) Cj 0 t13 k z z z z) λa k=>oE h λAm Cl h=>dT k 9 z z s (λw s=>Qai (Enc.ow_rd Ak) Cl k Qdq z z z) λa k=>?_;refine dT k 10 z z s (λw s=>Qaj (Enc.ow_rd Ak) (hMj.az 1 0 z z z s) Cl 0 t13 k z z z z) λa k=>dT k 11 z z s (λw s=>Qbb Jhg k (cs:=#[I Al,I Am]) (ps:=[(0,.tmp 75),(1,.tmp 78)]) z z (by kernel_rfl)) λa k=>Qm1 4 12 (by kernel_rfl) z z ?_ ?_
   · refine sv k z (Qq4 Q04 m 3 Aa 6 k z z z z z) λa k=>wpList_nil ⟨s,?_⟩;refine dO 12 z (Qe3 (cs:=[I Al,I Am]) (ps:=[(0,.tmp 79)]) Jaq m k z z z z z z z (by decide) z (by exact fC z fN) λGn Hd Gu a k m e Es Eo=>?_);have Gl:=lo1 (Nat.le_trans s.size Eo);have Fe:=Qbe Es ([(⟨Al,Am⟩:Pair)]:List Pair) z z z;refine ns s e λs=>?_;refine dO 13 z (oE h λEb Dl h=>Qbc Dl Jaq z m 5 Af (News.rd (m.q Fe 0 z)) z z k z z z z z z z λDw Cd Gf a k e m Bf Ez=>?_);have Is:∀ y∈Cd,y∈(F7++([b3]))∨_≤y:=λy hy=>(Ez y hy).elim (λhy=>(λy hy=>Or.inl (List.mem_append_left _ hy)) y hy) (λh=>Or.inr (Nat.le_trans s.size h));have s:=s.trans e (λy hy=>Or.inl (List.mem_append_left _ hy));refine wpList_nil ⟨s,?_⟩;refine dT k 14 z z s (λw s=>Qli k z z) λa k=>dF k 15 Qp2 z s λa k=>dO 16 z (Qsm (cs':=(cR r1 Dw v9 Aj)) sizeOf49 m 4 Aa 6 k (Qry (Enc.ow_rd Bf)) (Qly (Enc.ow_rd Bf)) z z z z z z z z z λHm a k e m Da=>?_);have s:=s.trans e (λy hy=>Or.inl (List.mem_append_right _ hy));refine wpList_nil ⟨s,?_⟩;refine dD ((Qaa ?_))
     refine wr (pN 1 k z λa k=>nn (wp_ret (Qad ?_)));cases h;exact Qco k z (RV.tmp k z) ⟨([b3]++(Cd++(Ae++Ad))),z,m.ext,(λb hb=>(m.sl [4,5,6,7] z).lo b (by simpa [fps] using hb)),(obx.fin (x:=(⟨r1.fe,r1.fJ,r1.fU,Eb,r1.fG,r1.fT,r1.fV⟩:Request)) (m.y Da 4 z) (m.v Bf 5 z) (m.v Ah 6 z) (m.v Ag 7 z) (by simpa [fps] using (m.sl [4,5,6,7] z).nd))⟩
   refine Qe3 (cs:=[I Al,I Am]) (ps:=[(0,.tmp 79)]) Jaq m k z z z z z z z (by decide) z (by exact fC z fN) λIe Gz Gg a k m e Dy Dv=>?_;have Hv:=lo1 (Nat.le_trans s.size Dv);have Et:=Qbe Dy ([(⟨Al,Am⟩:Pair)]:List Pair) z z z;refine ns s e λs=>?_;refine dO 4 z (sv k z (Qq4 Q04 m 4 Aa 6 k z z z z z) λa k=>wpList_nil ⟨s,?_⟩);refine dO 13 z (oE h λDh Fh h=>Qbc Fh Jaq z m 5 Af (News.rd (m.q Et 0 z)) z z k z z z z z z z λEl Ci Hq a k e m Bm Ev=>?_);have Gk:∀ y∈Ci,y∈(F7++([b3]))∨_≤y:=λy hy=>(Ev y hy).elim (λhy=>(λy hy=>Or.inl (List.mem_append_left _ hy)) y hy) (λh=>Or.inr (Nat.le_trans s.size h));have s:=s.trans e (λy hy=>Or.inl (List.mem_append_left _ hy));refine wpList_nil ⟨s,?_⟩;refine dT k 14 z z s (λw s=>Qli k z z) λa k=>dF k 15 Qp2 z s λa k=>dO 16 z (Qsm (cs':=(cR r1 El v9 Aj)) sizeOf49 m 4 Aa 6 k (Qry (Enc.ow_rd Bm)) (Qly (Enc.ow_rd Bm)) z z z z z z z z z λIp a k e m Ej=>?_);have s:=s.trans e (λy hy=>Or.inl (List.mem_append_right _ hy));refine wpList_nil ⟨s,?_⟩;refine dD ((Qaa ?_))
   refine wr (pN 1 k z λa k=>nn (wp_ret (Qad ?_)));cases h;exact Qco k z (RV.tmp k z) ⟨([b3]++(Ci++(Ae++Ad))),z,m.ext,(λb hb=>(m.sl [4,5,6,7] z).lo b (by simpa [fps] using hb)),(obx.fin (x:=(⟨r1.fe,r1.fJ,r1.fU,Dh,r1.fG,r1.fT,r1.fV⟩:Request)) (m.y Ej 4 z) (m.v Bm 5 z) (m.v Ah 6 z) (m.v Ag 7 z) (by simpa [fps] using (m.sl [4,5,6,7] z).nd))⟩
 refine wp_skip (Qaa ?_);refine wp_seq (wr (pN 1 k z λa k=>oE h λHp Dr h=>sC k call35 z (Qlz fu (hT _ m.ext) _ _ _  Dr) λHx Ic hR=>?_));obtain ⟨Ik,Ep,rfl,e,Ac,Fm⟩:=hR;refine ⟨_,z,λa k=>?_⟩;have m:=m.nw e Fm Ac;refine pN 5 k z λa k=>nn (wr (pN 1 k z λa k=>nn (cI h k z (λEg h=>?_) λEg h=>?_)))
 · refine wp_seq (Qjp (Ae++([b3])) Qjh m z λDg hMd=>?_);have m:=hMd;have s:=Ext.refl ((Ae++([b3])):List Nat) Dg;have hMj:=(hMd.sel [6,4,0,1,2,3,5,7] z (by decide)).join2;refine dM [0,1,5,8,11,14,17,20,23] 9 z k z s λa k=>dT k 2 z z s (λw s=>Qli k z z) λa k=>dF k 3 Qht z s λa k=>oE h λAv Bw h=>dT k 6 z z s (λw s=>Qai (Enc.ow_rd Ac) Bw k Qdq z z z) λa k=>dT k 7 z z s (λw s=>Qaj (Enc.ow_rd Ac) (hMj.az 1 0 z z z s) Bw 0 t13 k z z z z) λa k=>oE h λAy Cp h=>dT k 9 z z s (λw s=>Qai (Enc.ow_rd Ac) Cp k Qdq z z z) λa k=>?_;refine dT k 10 z z s (λw s=>Qaj (Enc.ow_rd Ac) (hMj.az 1 0 z z z s) Cp 0 t13 k z z z z) λa k=>oE h λAw Bo h=>dT k 12 z z s (λw s=>Qai (Enc.ow_rd Ac) Bo k Qdq z z z) λa k=>dT k 13 z z s (λw s=>Qaj (Enc.ow_rd Ac) (hMj.az 1 0 z z z s) Bo 0 t13 k z z z z) λa k=>oE h λAr Co h=>dT k 15 z z s (λw s=>Qai (Enc.ow_rd Ac) Co k Qdq z z z) λa k=>dT k 16 z z s (λw s=>Qaj (Enc.ow_rd Ac) (hMj.az 1 0 z z z s) Co 0 t13 k z z z z) λa k=>oE h λAx Cn h=>?_
   refine dT k 18 z z s (λw s=>Qai (Enc.ow_rd Ac) Cn k Qdq z z z) λa k=>dT k 19 z z s (λw s=>Qaj (Enc.ow_rd Ac) (hMj.az 1 0 z z z s) Cn 0 t13 k z z z z) λa k=>oE h λBa Bv h=>dT k 21 z z s (λw s=>Qai (Enc.ow_rd Ac) Bv k Qdq z z z) λa k=>dT k 22 z z s (λw s=>Qaj (Enc.ow_rd Ac) (hMj.az 1 0 z z z s) Bv 0 t13 k z z z z) λa k=>oE h λAq Bp h=>dT k 24 z z s (λw s=>Qai (Enc.ow_rd Ac) Bp k Qdq z z z) λa k=>?_;refine dT k 25 z z s (λw s=>Qaj (Enc.ow_rd Ac) (hMj.az 1 0 z z z s) Bp 0 t13 k z z z z) λa k=>dT k 26 z z s (λw s=>Qbb Jcq k (cs:=#[I Av,I Ay,I Aw,I Ar,I Ax,I Ba,I Aq]) (ps:=[(0,.tmp 97),(1,.tmp 100),(2,.tmp 103),(3,.tmp 106),(4,.tmp 109),(5,.tmp 112),(6,.tmp 115)]) z z (by kernel_rfl)) λa k=>Qm1 4 27 (by kernel_rfl) z z ?_ ?_
   · refine sv k z (Qq4 Qvp m 4 Aa 7 k z z z z z) λa k=>wpList_nil ⟨s,?_⟩;refine dO 27 z (Qe3 (cs:=[I Av,I Ay,I Aw,I Ar,I Ax,I Ba,I Aq]) (ps:=[(0,.tmp 116)]) Ja4 m k z z z z z z z (by decide) z (by exact fC z fN) λGd Ih In a k m e Cw Eu=>?_);have Hj:=lo1 (Nat.le_trans s.size Eu);have Dm:=Qbe Cw ([(⟨Av,Ay,Aw,Ar,Ax,Ba,Aq⟩:Typ)]:List Typ) z z z;refine ns s e λs=>?_;refine dO 28 z (oE h λEw Ea h=>Qbc Ea Ja4 z m 7 Ah (News.rd (m.q Dm 0 z)) z z k z z z z z z z λDs Cm Gc a k e m Bl Fn=>?_);have Hn:∀ y∈Cm,y∈(Ae++([b3]))∨_≤y:=λy hy=>(Fn y hy).elim (λhy=>(λy hy=>Or.inl (List.mem_append_left _ hy)) y hy) (λh=>Or.inr (Nat.le_trans s.size h));have s:=s.trans e (λy hy=>Or.inl (List.mem_append_left _ hy));refine wpList_nil ⟨s,?_⟩;refine dT k 29 z z s (λw s=>Qli k z z) λa k=>dF k 30 Qht z s λa k=>dO 31 z (Qsm (cs':=(cR r1 v6 Ds Aj)) sizeOf50 m 5 Aa 7 k (Qry (Enc.ow_rd Bl)) (Qly (Enc.ow_rd Bl)) z z z z z z z z z λHf a k e m Fa=>?_);have s:=s.trans e (λy hy=>Or.inl (List.mem_append_right _ hy));refine wpList_nil ⟨s,?_⟩
     refine dD ?_;have k:=k.keep [] z;refine (Qaa ?_);refine wr (pN 1 k z λa k=>nn (wp_ret (Qad ?_)));cases h;exact Qco k z (RV.tmp k z) ⟨([b3]++(F7++(Cm++Ad))),z,m.ext,(λb hb=>(m.sl [5,6,7,8] z).lo b (by simpa [fps] using hb)),(obx.fin (x:=(⟨r1.fe,r1.fJ,r1.fU,r1.fR,Ew,r1.fT,r1.fV⟩:Request)) (m.y Fa 5 z) (m.v Af 6 z) (m.v Bl 7 z) (m.v Ag 8 z) (by simpa [fps] using (m.sl [5,6,7,8] z).nd))⟩
   refine Qe3 (cs:=[I Av,I Ay,I Aw,I Ar,I Ax,I Ba,I Aq]) (ps:=[(0,.tmp 116)]) Ja4 m k z z z z z z z (by decide) z (by exact fC z fN) λHo Ia Il a k m e Cz Dp=>?_;have It:=lo1 (Nat.le_trans s.size Dp);have Ex:=Qbe Cz ([(⟨Av,Ay,Aw,Ar,Ax,Ba,Aq⟩:Typ)]:List Typ) z z z;refine ns s e λs=>?_;refine dO 4 z (sv k z (Qq4 Qvp m 5 Aa 7 k z z z z z) λa k=>wpList_nil ⟨s,?_⟩);refine dO 28 z (oE h λFu Fq h=>Qbc Fq Ja4 z m 7 Ah (News.rd (m.q Ex 0 z)) z z k z z z z z z z λEf Bz Ht a k e m Bj Cu=>?_);have Gr:∀ y∈Bz,y∈(Ae++([b3]))∨_≤y:=λy hy=>(Cu y hy).elim (λhy=>(λy hy=>Or.inl (List.mem_append_left _ hy)) y hy) (λh=>Or.inr (Nat.le_trans s.size h));have s:=s.trans e (λy hy=>Or.inl (List.mem_append_left _ hy));refine wpList_nil ⟨s,?_⟩;refine dT k 29 z z s (λw s=>Qli k z z) λa k=>dF k 30 Qht z s λa k=>dO 31 z (Qsm (cs':=(cR r1 v6 Ef Aj)) sizeOf50 m 5 Aa 7 k (Qry (Enc.ow_rd Bj)) (Qly (Enc.ow_rd Bj)) z z z z z z z z z λIq a k e m Ee=>?_);have s:=s.trans e (λy hy=>Or.inl (List.mem_append_right _ hy));refine wpList_nil ⟨s,?_⟩
   refine dD ?_;have k:=k.keep [] z;refine (Qaa ?_);refine wr (pN 1 k z λa k=>nn (wp_ret (Qad ?_)));cases h;exact Qco k z (RV.tmp k z) ⟨([b3]++(F7++(Bz++Ad))),z,m.ext,(λb hb=>(m.sl [5,6,7,8] z).lo b (by simpa [fps] using hb)),(obx.fin (x:=(⟨r1.fe,r1.fJ,r1.fU,r1.fR,Fu,r1.fT,r1.fV⟩:Request)) (m.y Ee 5 z) (m.v Af 6 z) (m.v Bj 7 z) (m.v Ag 8 z) (by simpa [fps] using (m.sl [5,6,7,8] z).nd))⟩
 refine wp_skip (Qaa ?_);refine wp_seq (wr (pN 1 k z λa k=>oE h λGw De h=>sC k call35 z (Qlz fu (hT _ m.ext) _ _ _  De) λHc Gb hR=>?_));obtain ⟨Hk,Dc,rfl,e,Bc,Fv⟩:=hR;refine ⟨_,z,λa k=>?_⟩;have m:=m.nw e Fv Bc;refine pN 5 k z λa k=>nn (wr (pN 1 k z λa k=>nn (cI h k z (λCv h=>?_) λCv h=>?_)))
 · refine wr (pN 2 k z λa k=>oE h λCs Cq h=>sv k z (Qai (Enc.ow_rd Bc) Cq k Qdq z z z) λa k=>sv k z (Qaj (Enc.ow_rd Bc) (m.a 0 z) Cq 0 t13 k z z z z) λa k=>sv k z (Qli k z z) λa k=>sv k z (Ql3 Qz4 k z z) λa k=>sT (cs':=[I r1.fe,I r1.fJ.fW,I r1.fJ.fD,I r1.fJ.fH,I r1.fJ.fQ,I r1.fU,v6,v9,I Cs,Aj]) sizeOf3 m 5 Aa 8 k z z λGx a k e m Dx=>?_);have k:=k.keep [] z;refine nn (wr (pN 1 k z λa k=>nn (wp_ret (Qad ?_))));cases h;exact Qco k z (RV.tmp k z) ⟨([b3]++(F7++(Ae++Ad))),z,m.ext,(λb hb=>(m.sl [5,6,7,8] z).lo b (by simpa [fps] using hb)),(obx.fin (x:=(⟨r1.fe,r1.fJ,r1.fU,r1.fR,r1.fG,Cs,r1.fV⟩:Request)) (m.y Dx 5 z) (m.v Af 6 z) (m.v Ah 7 z) (m.v Ag 8 z) (by simpa [fps] using (m.sl [5,6,7,8] z).nd))⟩
 refine wp_skip (Qaa ?_);refine wp_seq (wr (pN 1 k z λa k=>oE h λHu Fp h=>sC k call35 z (Qlz fu (hT _ m.ext) _ _ _  Fp) λHw Gt hR=>?_));obtain ⟨Gj,Fs,rfl,e,Ab,Fx⟩:=hR;refine ⟨_,z,λa k=>?_⟩;have m:=m.nw e Fx Ab;refine pN 5 k z λa k=>?_;have k:=k.keep [0,15,16] z;refine nn (wr (pN 1 k z λa k=>nn (cI h k z (λFr h=>?_) λFr h=>?_)))
 · refine wp_seq (Qjp (Ad++([b3])) Qjh m z λFg hMd=>?_);have m:=hMd;have s:=Ext.refl ((Ad++([b3])):List Nat) Fg;have hMj:=(hMd.sel [9,6,0,1,2,3,4,5,7,8] z (by decide)).join2;refine dM [0,1,5,8,11,14,17,20,23] 9 z k z s λa k=>dT k 2 z z s (λw s=>Qli k z z) λa k=>dF k 3 Qhh z s λa k=>oE h λAu Ck h=>dT k 6 z z s (λw s=>Qai (Enc.ow_rd Ab) Ck k Qdq z z z) λa k=>dT k 7 z z s (λw s=>Qaj (Enc.ow_rd Ab) (hMj.az 1 0 z z z s) Ck 0 t13 k z z z z) λa k=>oE h λAz Cr h=>dT k 9 z z s (λw s=>Qai (Enc.ow_rd Ab) Cr k Qdq z z z) λa k=>?_;refine dT k 10 z z s (λw s=>Qaj (Enc.ow_rd Ab) (hMj.az 1 0 z z z s) Cr 0 t13 k z z z z) λa k=>oE h λBb By h=>dT k 12 z z s (λw s=>Qai (Enc.ow_rd Ab) By k Qdq z z z) λa k=>dT k 13 z z s (λw s=>Qaj (Enc.ow_rd Ab) (hMj.az 1 0 z z z s) By 0 t13 k z z z z) λa k=>oE h λAs Cc h=>dT k 15 z z s (λw s=>Qai (Enc.ow_rd Ab) Cc k Qdq z z z) λa k=>dT k 16 z z s (λw s=>Qaj (Enc.ow_rd Ab) (hMj.az 1 0 z z z s) Cc 0 t13 k z z z z) λa k=>oE h λAp Ch h=>?_
   refine dT k 18 z z s (λw s=>Qai (Enc.ow_rd Ab) Ch k Qdq z z z) λa k=>dT k 19 z z s (λw s=>Qaj (Enc.ow_rd Ab) (hMj.az 1 0 z z z s) Ch 0 t13 k z z z z) λa k=>oE h λAo Bq h=>dT k 21 z z s (λw s=>Qai (Enc.ow_rd Ab) Bq k Qdq z z z) λa k=>dT k 22 z z s (λw s=>Qaj (Enc.ow_rd Ab) (hMj.az 1 0 z z z s) Bq 0 t13 k z z z z) λa k=>oE h λAt Bt h=>dT k 24 z z s (λw s=>Qai (Enc.ow_rd Ab) Bt k Qdq z z z) λa k=>?_;refine dT k 25 z z s (λw s=>Qaj (Enc.ow_rd Ab) (hMj.az 1 0 z z z s) Bt 0 t13 k z z z z) λa k=>dT k 26 z z s (λw s=>Qbb Jhq k (cs:=#[I Au,I Az,I Bb,I As,I Ap,I Ao,I At]) (ps:=[(0,.tmp 146),(1,.tmp 149),(2,.tmp 152),(3,.tmp 155),(4,.tmp 158),(5,.tmp 161),(6,.tmp 164)]) z z (by kernel_rfl)) λa k=>Qm1 4 27 (by kernel_rfl) z z ?_ ?_
   · refine sv k z (Qq4 Qvj m 6 Aa 9 k z z z z z) λa k=>wpList_nil ⟨s,?_⟩;refine dO 27 z (Qe3 (cs:=[I Au,I Az,I Bb,I As,I Ap,I Ao,I At]) (ps:=[(0,.tmp 165)]) Q6p m k z z z z z z z (by decide) z (by exact fC z fN) λIm Ij Io a k m e Fz Ey=>?_);have Ha:=lo1 (Nat.le_trans s.size Ey);have Du:=Qbe Fz ([(⟨Au,Az,Bb,As,Ap,Ao,At⟩:Item)]:List Item) z z z;refine ns s e λs=>?_;refine dO 28 z (oE h λFd Dq h=>Qbc Dq Q6p z m 10 Ag (News.rd (m.q Du 0 z)) z z k z z z z z z z λCx Bu If a k e m Bn Dj=>?_);have Hb:∀ y∈Bu,y∈(Ad++([b3]))∨_≤y:=λy hy=>(Dj y hy).elim (λhy=>(λy hy=>Or.inl (List.mem_append_left _ hy)) y hy) (λh=>Or.inr (Nat.le_trans s.size h));have s:=s.trans e (λy hy=>Or.inl (List.mem_append_left _ hy));refine wpList_nil ⟨s,?_⟩;refine dT k 29 z z s (λw s=>Qli k z z) λa k=>dF k 30 Qhh z s λa k=>dO 31 z (Qsm (cs':=(cR r1 v6 v9 Cx)) sizeOf51 m 7 Aa 9 k (Qry (Enc.ow_rd Bn)) (Qly (Enc.ow_rd Bn)) z z z z z z z z z λIw a k e m Do=>?_);have s:=s.trans e (λy hy=>Or.inl (List.mem_append_right _ hy));refine wpList_nil ⟨s,?_⟩
     refine dD ?_;have k:=k.keep [] z;refine (Qaa ?_);refine wr (pN 1 k z λa k=>nn (wp_ret (Qad ?_)));cases h;exact Qco k z (RV.tmp k z) ⟨([b3]++(F7++(Ae++Bu))),z,m.ext,(λb hb=>(m.sl [7,8,9,10] z).lo b (by simpa [fps] using hb)),(obx.fin (x:=(⟨r1.fe,r1.fJ,r1.fU,r1.fR,r1.fG,r1.fT,Fd⟩:Request)) (m.y Do 7 z) (m.v Af 8 z) (m.v Ah 9 z) (m.v Bn 10 z) (by simpa [fps] using (m.sl [7,8,9,10] z).nd))⟩
   refine Qe3 (cs:=[I Au,I Az,I Bb,I As,I Ap,I Ao,I At]) (ps:=[(0,.tmp 165)]) Q6p m k z z z z z z z (by decide) z (by exact fC z fN) λHz He Iu a k m e Ff Fb=>?_;have Ig:=lo1 (Nat.le_trans s.size Fb);have Ft:=Qbe Ff ([(⟨Au,Az,Bb,As,Ap,Ao,At⟩:Item)]:List Item) z z z;refine ns s e λs=>?_;refine dO 4 z (sv k z (Qq4 Qvj m 7 Aa 9 k z z z z z) λa k=>wpList_nil ⟨s,?_⟩);refine dO 28 z (oE h λDt Fy h=>Qbc Fy Q6p z m 10 Ag (News.rd (m.q Ft 0 z)) z z k z z z z z z z λEn Ca Hh a k e m Bg Fi=>?_);have Gy:∀ y∈Ca,y∈(Ad++([b3]))∨_≤y:=λy hy=>(Fi y hy).elim (λhy=>(λy hy=>Or.inl (List.mem_append_left _ hy)) y hy) (λh=>Or.inr (Nat.le_trans s.size h));have s:=s.trans e (λy hy=>Or.inl (List.mem_append_left _ hy));refine wpList_nil ⟨s,?_⟩;refine dT k 29 z z s (λw s=>Qli k z z) λa k=>dF k 30 Qhh z s λa k=>dO 31 z (Qsm (cs':=(cR r1 v6 v9 En)) sizeOf51 m 7 Aa 9 k (Qry (Enc.ow_rd Bg)) (Qly (Enc.ow_rd Bg)) z z z z z z z z z λHi a k e m Em=>?_);have s:=s.trans e (λy hy=>Or.inl (List.mem_append_right _ hy));refine wpList_nil ⟨s,?_⟩
   refine dD ?_;have k:=k.keep [] z;refine (Qaa ?_);refine wr (pN 1 k z λa k=>nn (wp_ret (Qad ?_)));cases h;exact Qco k z (RV.tmp k z) ⟨([b3]++(F7++(Ae++Ca))),z,m.ext,(λb hb=>(m.sl [7,8,9,10] z).lo b (by simpa [fps] using hb)),(obx.fin (x:=(⟨r1.fe,r1.fJ,r1.fU,r1.fR,r1.fG,r1.fT,Dt⟩:Request)) (m.y Em 7 z) (m.v Af 8 z) (m.v Ah 9 z) (m.v Bg 10 z) (by simpa [fps] using (m.sl [7,8,9,10] z).nd))⟩
 refine wp_skip (Qaa ?_);refine wr (pN 1 k z λa k=>nn (wp_ret ?_));cases h;exact Qco k z (RV.tmp k z) ⟨([b3]++(F7++(Ae++Ad))),z,m.ext,(λb hb=>(m.sl [6,7,8,9] z).lo b (by simpa [fps] using hb)),(obx.fin (x:=r1) (m.y Aa 6 z) (m.v Af 7 z) (m.v Ah 8 z) (m.v Ag 9 z) (by simpa [fps] using (m.sl [6,7,8,9] z).nd))⟩
theorem Qw8 (fu:Nat) {w0:World} (Aa:Int) (Ah:Int)  {r:Bool}
    (h:Qlo fu Aa Ah=some r) :
    Calls Tryz.prog 64 #[I Aa,I Ah] w0 λe w=>e=.returned (.bool (r))∧Ext [] w0 w:=by
 refine en (vs:=[_,_]) func64 z ntmps64 z λa k m=>?_;unfold Qlo at h;refine wr (pN 1 k z λa k=>nn (Qcw (λa w=>K 38 [] a∧St [] w0 w []∧Qgo fu=some r) ?_ ?_))
 · rintro a Bl ⟨k,m,h⟩;unfold Qgo at h;refine wr (pN 1 k z λa k=>nn (wp_ret (fS h k m z z)))
 refine wr (pN 1 k z λa k=>nn (wp_block (wp_seq (wr (pN 2 k z λa k=>nn (cI h k z (λAo h=>?_) λAo h=>?_))))))
 · refine wp_skip (Qaa ?_);refine cI h k z (λAj h=>?_) λAj h=>?_
   · refine wr (pN 5 k z λa k=>nn (wp_ret (Qag (Qad ?_))));refine fS h k m z z
   refine wr (pN 2 k z λa k=>nn (cI h k z (λBc h=>?_) λBc h=>?_))
   · refine wr (pN 3 k z λa k=>Qal (Aa==2) (λAe=>?_) (λAe=>?_))
     · have h:=Qax Ae h;refine rB k 18 z Ae λk=>pN 4 k z λa k=>nn (wp_ret (Qag (Qad ?_)));refine fS h k m z z
     have h:=Qav Ae h;refine rB k 18 z Ae λk=>pN 4 k z λa k=>nn (wp_ret (Qag (Qad ?_)));refine fS h k m z z
   refine wr (pN 2 k z λa k=>nn (cI h k z (λBd h=>?_) λBd h=>?_))
   · refine wr (pN 1 k z λa k=>oE h λBg Bb h=>cC k m call48 z (Qa9 fu _ _ _  Bb) λBk e a k m=>pN 1 k z λa k=>nn (wp_ret (Qag (Qad ?_))));refine fS h k m z z
   refine wr (pN 2 k z λa k=>nn (cI h k z (λAp h=>?_) λAp h=>?_))
   · refine wr (pN 1 k z λa k=>oE h λBq At h=>cC k m call48 z (Qa9 fu _ _ _  At) λBr e a k m=>pN 1 k z λa k=>nn (wp_ret (Qag (Qad ?_))));refine fS h k m z z
   refine wr (pN 2 k z λa k=>nn (cI h k z (λAi h=>?_) λAi h=>?_))
   · refine wr (pN 3 k z λa k=>Qal (Aa==5) (λAd=>?_) (λAd=>?_))
     · have h:=Qax Ad h;refine rB k 34 z Ad λk=>pN 4 k z λa k=>nn (wp_ret (Qag (Qad ?_)));refine fS h k m z z
     have h:=Qav Ad h;refine rB k 34 z Ad λk=>pN 4 k z λa k=>nn (wp_ret (Qag (Qad ?_)));refine fS h k m z z
   refine wp_skip (Qaf (Qaa ?_));exact ⟨k.keep [] z,m.sl [] z,h⟩
 refine wr (pN 2 k z λa k=>nn (cI h k z (λAq h=>?_) λAq h=>?_))
 · refine wp_skip (Qaa ?_);refine cI h k z (λBf h=>?_) λBf h=>?_
   · refine wr (pN 5 k z λa k=>nn (wp_ret (Qag (Qad ?_))));refine fS h k m z z
   refine wr (pN 2 k z λa k=>nn (cI h k z (λAv h=>?_) λAv h=>?_))
   · refine wr (pN 3 k z λa k=>Qal (Aa==2) (λAc=>?_) (λAc=>?_))
     · have h:=Qax Ac h;refine rB k 18 z Ac λk=>pN 4 k z λa k=>nn (wp_ret (Qag (Qad ?_)));refine fS h k m z z
     have h:=Qav Ac h;refine rB k 18 z Ac λk=>pN 4 k z λa k=>nn (wp_ret (Qag (Qad ?_)));refine fS h k m z z
   refine wr (pN 2 k z λa k=>nn (cI h k z (λAw h=>?_) λAw h=>?_))
   · refine wr (pN 1 k z λa k=>oE h λBp Ay h=>cC k m call48 z (Qa9 fu _ _ _  Ay) λBi e a k m=>pN 1 k z λa k=>nn (wp_ret (Qag (Qad ?_))));refine fS h k m z z
   refine wr (pN 2 k z λa k=>nn (cI h k z (λAx h=>?_) λAx h=>?_))
   · refine wr (pN 1 k z λa k=>oE h λBo Az h=>cC k m call48 z (Qa9 fu _ _ _  Az) λBh e a k m=>pN 1 k z λa k=>nn (wp_ret (Qag (Qad ?_))));refine fS h k m z z
   refine wr (pN 2 k z λa k=>nn (cI h k z (λAm h=>?_) λAm h=>?_))
   · refine wr (pN 3 k z λa k=>Qal (Aa==5) (λAb=>?_) (λAb=>?_))
     · have h:=Qax Ab h;refine rB k 34 z Ab λk=>pN 4 k z λa k=>nn (wp_ret (Qag (Qad ?_)));refine fS h k m z z
     have h:=Qav Ab h;refine rB k 34 z Ab λk=>pN 4 k z λa k=>nn (wp_ret (Qag (Qad ?_)));refine fS h k m z z
   refine wp_skip (Qaf (Qaa ?_));exact ⟨k.keep [] z,m.sl [] z,h⟩
 refine wp_region_lit (pN 2 k z λa k=>nn (cI h k z (λBe h=>?_) λBe h=>?_))
 · refine wr (pN 5 k z λa k=>nn (wp_ret (Qag (Qad ?_))));refine fS h k m z z
 refine wr (pN 2 k z λa k=>nn (cI h k z (λAs h=>?_) λAs h=>?_))
 · refine wr (pN 3 k z λa k=>Qal (Aa==2) (λAf=>?_) (λAf=>?_))
   · have h:=Qax Af h;refine rB k 18 z Af λk=>pN 4 k z λa k=>nn (wp_ret (Qag (Qad ?_)));refine fS h k m z z
   have h:=Qav Af h;refine rB k 18 z Af λk=>pN 4 k z λa k=>nn (wp_ret (Qag (Qad ?_)));refine fS h k m z z
 refine wr (pN 2 k z λa k=>nn (cI h k z (λBa h=>?_) λBa h=>?_))
 · refine wr (pN 1 k z λa k=>oE h λBn Al h=>cC k m call48 z (Qa9 fu _ _ _  Al) λBj e a k m=>pN 1 k z λa k=>nn (wp_ret (Qag (Qad ?_))));refine fS h k m z z
 refine wr (pN 2 k z λa k=>nn (cI h k z (λAu h=>?_) λAu h=>?_))
 · refine wr (pN 1 k z λa k=>oE h λBm Ar h=>cC k m call48 z (Qa9 fu _ _ _  Ar) λBs e a k m=>pN 1 k z λa k=>nn (wp_ret (Qag (Qad ?_))));refine fS h k m z z
 refine wr (pN 2 k z λa k=>nn (cI h k z (λAk h=>?_) λAk h=>?_))
 · refine wr (pN 3 k z λa k=>Qal (Aa==5) (λAg=>?_) (λAg=>?_))
   · have h:=Qax Ag h;refine rB k 34 z Ag λk=>pN 4 k z λa k=>nn (wp_ret (Qag (Qad ?_)));refine fS h k m z z
   have h:=Qav Ag h;refine rB k 34 z Ag λk=>pN 4 k z λa k=>nn (wp_ret (Qag (Qad ?_)));refine fS h k m z z
 refine wp_skip (Qaf (Qaa ?_));exact ⟨k.keep [] z,m.sl [] z,h⟩
theorem Qtg (fu:Nat) {w0:World} (hT:Te Tryz.prog w0) (Bn:ByteArray)  {r:Request×Int}
    (h:Qhx fu Bn=some r) :
    Calls Tryz.prog 41 #[.string (Bn)] w0 λe w=>∃ (Bo:List Value) (G0:List Nat),e=.returned (.tuple #[.agg Bo.toArray,I r.2])∧Ext [] w0 w∧ow w G0 Bo r.1∧(∀ b∈G0,w0.heap.size≤b):=by
 refine en (vs:=[_]) func41 z ntmps41 z λa k m=>?_;unfold Qhx at h;refine wr (Qaz (cs:=[I 0,I 0,I 0,I 0,I 0,I 0,.slice none 0 0,.slice none 0 0,I 0,.slice none 0 0]) m k zeroValue53 z z z z z λb2 w4 a k m e Ak=>pN 1 k z λa k=>nn (wr (pN 1 k z λa k=>oE h λx5 Bq h=>sC k call26 z (Qv9 fu _ _  Bq) λe7 w9 hR=>?_)));obtain ⟨Ct,Bl,rfl,e,Ag,Cg⟩:=hR;refine ⟨_,z,λa k=>?_⟩;have m:=m.nw e Cg Ag;refine pN 1 k z λa k=>nn (wr (pN 1 k z λa k=>sv k z (Qba (α:=ByteArray) (Enc.ow_rd Ag) k underlying58 z z) λa k=>pN 2 k z λa k=>nn (wp_seq (wr (pN 2 k z λa k=>nn (cI h k z (λCf h=>?_) λCf h=>?_))))))
 · refine wr (sv k z (Qbb Q5d k (cs:=#[I 0,I 0,I 0,I 0,I 0,I 0,.slice none 0 0,.slice none 0 0,I 0,.slice none 0 0]) (ps:=[]) z z (by kernel_rfl)) λa k=>sT (cs':=[I 0,I 0,I 0,I 0,I 0,I 0,.slice none 0 0,.slice none 0 0,I 0,.slice none 0 0]) sizeOf53 m 1 Ak 0 k z z λDc a k e m Bt=>pN 1 k z λa k=>nn (wp_ret (Qad ?_)));cases h;exact Qf6 k z (RV.cA k z Qf7 (Bt.at (m.a 1 z) 0 10 z z z) z) (RV.tmp k z) ⟨_,_,z,m.ext,⟨_,[],_,[],_,[],z,z,(Qbr _),(Qbr _),(Qbr _),by simpa [fps] using (m.sl [] z).nd⟩,(Qce (by simp) (Qce (by simp) (by simp)))⟩
 refine wp_skip (Qaa ?_);refine wr (sv k z (Qbb Q5d k (cs:=#[I 0,I 0,I 0,I 0,I 0,I 0,.slice none 0 0,.slice none 0 0,I 0,.slice none 0 0]) (ps:=[]) z z (by kernel_rfl)) λa k=>Qaz (cs:=[I 0,I 0,I 0,I 0,I 0,I 0,.slice none 0 0,.slice none 0 0,I 0,.slice none 0 0]) m k zeroValue53 z z z z z λBa Db a k m e Bs=>sT (cs':=[I 0,I 0,I 0,I 0,I 0,I 0,.slice none 0 0,.slice none 0 0,I 0,.slice none 0 0]) sizeOf53 m 0 Bs 0 k z z λCo a k e m By=>nn (wr (pN 1 k z λa k=>nn (wp_seq (wr (pN 2 k z λa k=>oE h λBi Cw h=>?_))))));refine Q4y (Enc.ow_rd Ag) Cw k Q3z z z z z z z λBr a k Bc=>sv k z (Qba (α:=ByteArray) Bc k underlying58 z z) λa k=>pN 1 k z λa k=>nn (wp_block ?_)
 refine Qaq (λn a w=>∃ (Ae:Int) (Ad:Int) (Ac:Int) (Ai:Int) (Ab:Int) (Ah:Int) (Am:List Pair) (Ap:Value) (Av:List Nat) (Ay:World) (Aj:List Typ) (Au:Value) (Ar:List Nat) (Bb:World) (Af:Int) (Al:List Item) (As:Value) (At:List Nat) (Az:World) (Bh:World) (Aq:Int) (Ax:Int),K 51 [(2,pt b2),(4,Ct),(5,I (w64 ((x5.length:Int) - 1))),(6,pt Ba),(7,I Aq),(22,Br),(23,I (Bi.length:Int)),(24,I Ax)] a∧St [] w0 w [([b2],w4),(Av,Ay),(Ar,Bb),(At,Az),([Ba],Bh),(Bl,w9)]∧ow Ay Av [Ap] Am∧ow Bb Ar [Au] Aj∧ow Az At [As] Al∧bx Bh Ba [I Ae,I Ad,I Ac,I Ai,I Ab,I Ah,Ap,Au,I Af,As] 53∧Qey fu x5 Bi n Ae Ad Ac Ai Ab Ah Am Aj Af Al Aq Ax=some r) ?_ ?_ fu _ _ ?_
 · rintro a w ⟨_,_,_,_,_,_,_,_,_,_,_,_,_,_,_,_,_,_,_,_,_,_,_,_,_,_,_,_,h⟩;exact nS h
 · rintro Df a De ⟨Ae,Ad,Ac,Ai,Ab,Ah,Am,Ap,Av,Ay,Aj,Au,Ar,Bb,Af,Al,As,At,Az,Bh,Aq,Ax,k,m,Bg,Be,Bf,Bk,h⟩;rw [Qey.eq_2] at h;unfold Qh9 at h;refine wr (pN 1 k z λa k=>nn (wp_seq (cI h k z (λBw h=>?_) λBw h=>?_)))
   · refine wp_skip (Qaa ?_);refine wp_seq (wp_block (wr (pN 1 k z λa k=>oE h λDk Bj h=>sv k z (Qai Bc Bj k Q3z z z z) λa k=>sv k z (Qaj Bc (m.a 5 z) Bj 0 t19 k z z z z) λa k=>pN 2 k z λa k=>nn (wr (pN 1 k z λa k=>?_)))));have Ck:=Enc.ow_agr Bg (m.a 1 z);have Bu:=Enc.ow_agr Be (m.a 2 z);have Cu:=Enc.ow_agr Bf (m.a 3 z);have Cd:=Bk.agr (m.a 4 z) (by simp);have m:=(m.sl [4,1,2,3,0,5] z).joinq;have Cb:=obx.fin (x:=(⟨Ae,(⟨Ad,Ac,Ai,Ab⟩:Pallet),Ah,Am,Aj,Af,Al⟩:Request)) Cd Ck Bu Cu (m.ndF 0 z);refine oE h λAa Cv h=>sC k call63 z (Qy5 fu (((⟨Ae,(⟨Ad,Ac,Ai,Ab⟩:Pallet),Ah,Am,Aj,Af,Al⟩:Request)):Request) _ Cb (m.te2 hT 0 z) Cv) λDa Aw hR=>?_;obtain ⟨Dl,rfl,e,Cj,Bd⟩:=hR;refine ⟨_,z,λa k=>?_⟩;have m:=m.mut 0 z e _ (λb hb=>⟨Cj b hb,Bd.lt b hb⟩) Bd.nd;obtain ⟨Cl,Bv,Cq,Bp,Cr,Ch,Cm,rfl,Cp,Bx,Cn,_⟩:=Bd;have m:=m.split4;refine pN 1 k z λa k=>nn (wp_seq (wr (pN 2 k z λa k=>oE h λDh Cc h=>cC k m call64 z (Qw8 fu _ _  Cc) λCy e a k m=>pN 1 k z λa k=>nn (cI h k z (λCe h=>?_) λCe h=>?_))))
     · refine wr (sv k z (Qbb Q5d k (cs:=#[I 0,I 0,I 0,I 0,I 0,I 0,.slice none 0 0,.slice none 0 0,I 0,.slice none 0 0]) (ps:=[]) z z (by kernel_rfl)) λa k=>pN 1 k z λa k=>sT (cs':=[I 0,I 0,I 0,I 0,I 0,I 0,.slice none 0 0,.slice none 0 0,I 0,.slice none 0 0]) sizeOf53 m 4 Ak 0 k z z λDi a k e m Ci=>pN 1 k z λa k=>nn (wp_ret (Qad (Qag (Qad (Qad (Qag (Qad ?_))))))));cases h;exact Qf6 k z (RV.cA k z Qf7 (Ci.at (m.a 4 z) 0 10 z z z) z) (RV.tmp k z) ⟨_,_,z,m.ext,⟨_,[],_,[],_,[],z,z,(Qbr _),(Qbr _),(Qbr _),by simpa [fps] using (m.sl [] z).nd⟩,(Qce (by simp) (Qce (by simp) (by simp)))⟩
     refine wp_skip (Qaa ?_);refine wp_region_lit (pN 2 k z λa k=>wpList_nil (Qaf (Qaa ?_)));refine wp_region_lit (pN 2 k z λa k=>nn ?_);exact ⟨Aa.2.fe,Aa.2.fJ.fW,Aa.2.fJ.fD,Aa.2.fJ.fH,Aa.2.fJ.fQ,Aa.2.fU,Aa.2.fR,Cl,Bv,Aw,Aa.2.fG,Cq,Bp,Aw,Aa.2.fT,Aa.2.fV,Cr,Ch,Aw,Aw,Aa.1,w64 (Ax+1),k.keep [2,4,5,6,7,22,23,24] z,m.sl [4,1,2,3,0,5] z,Cp,Bx,Cn,Cm,h⟩
   refine wp_exit (Qae (Qae (Qak (Qaa ?_))));refine wp_seq (wr (pN 3 k z λa k=>Qal (decide (Aq<5)) (λAo=>?_) (λAo=>?_)))
   · have h:=Qax Ao h;refine rB k 41 z Ao λk=>pN 6 k z λa k=>nn (wp_cond_true (k.ev z) (wr (sv k z (Qbb Q5d k (cs:=#[I 0,I 0,I 0,I 0,I 0,I 0,.slice none 0 0,.slice none 0 0,I 0,.slice none 0 0]) (ps:=[]) z z (by kernel_rfl)) λa k=>pN 1 k z λa k=>sT (cs':=[I 0,I 0,I 0,I 0,I 0,I 0,.slice none 0 0,.slice none 0 0,I 0,.slice none 0 0]) sizeOf53 m 0 Ak 0 k z z λDd a k e m Bz=>pN 1 k z λa k=>nn (wp_ret (Qad ?_)))));cases h;exact Qf6 k z (RV.cA k z Qf7 (Bz.at (m.a 0 z) 0 10 z z z) z) (RV.tmp k z) ⟨_,_,z,m.ext,⟨_,[],_,[],_,[],z,z,(Qbr _),(Qbr _),(Qbr _),by simpa [fps] using (m.sl [] z).nd⟩,(Qce (by simp) (Qce (by simp) (by simp)))⟩
   have h:=Qav Ao h;refine rB k 41 z Ao λk=>pN 2 k z λa k=>oE h λDg Bm h=>sv k z (Qai (Enc.ow_rd Ag) Bm k Q3z z z z) λa k=>sv k z (Qaj (Enc.ow_rd Ag) (m.a 5 z) Bm 0 t19 k z z z z) λa k=>pN 2 k z λa k=>nn (cI h k z (λCa h=>?_) λCa h=>?_)
   · refine wr (sv k z (Qbb Q5d k (cs:=#[I 0,I 0,I 0,I 0,I 0,I 0,.slice none 0 0,.slice none 0 0,I 0,.slice none 0 0]) (ps:=[]) z z (by kernel_rfl)) λa k=>pN 1 k z λa k=>sT (cs':=[I 0,I 0,I 0,I 0,I 0,I 0,.slice none 0 0,.slice none 0 0,I 0,.slice none 0 0]) sizeOf53 m 0 Ak 0 k z z λCz a k e m Cx=>pN 1 k z λa k=>nn (wp_ret (Qad ?_)));cases h;exact Qf6 k z (RV.cA k z Qf7 (Cx.at (m.a 0 z) 0 10 z z z) z) (RV.tmp k z) ⟨_,_,z,m.ext,⟨_,[],_,[],_,[],z,z,(Qbr _),(Qbr _),(Qbr _),by simpa [fps] using (m.sl [] z).nd⟩,(Qce (by simp) (Qce (by simp) (by simp)))⟩
   refine wp_skip (Qaa ?_);refine wr (sv k z (rL Qf7 m 4 Bk 0 k z) λa k=>sT (cs':=[I Ae,I Ad,I Ac,I Ai,I Ab,I Ah,Ap,Au,I Af,As]) sizeOf53 m 0 Ak 0 k z (Qcz z (Qcz z (Qcz z (Qcz z (Qcz z (Qcz z (Qcz (Qly (Enc.ow_rd Bg)) (Qcz (Qly (Enc.ow_rd Be)) (Qcz z (Qcz (Qly (Enc.ow_rd Bf)) Qso)))))))))) λDj a k e m Cs=>pN 1 k z λa k=>nn (wp_ret ?_));cases h;exact Qf6 k z (RV.cA k z Qf7 (Cs.at (m.a 0 z) 0 10 z z z) z) (RV.tmp k z) ⟨_,_,z,m.ext,⟨_,Av,_,Ar,_,At,z,z,(m.v Bg 1 z),(m.v Be 2 z),(m.v Bf 3 z),by simpa [fps] using (m.sl [1,2,3] z).nd⟩,(Qce (m.fresh 1 z) (Qce (m.fresh 2 z) (m.fresh 3 z)))⟩
 exact ⟨0,0,0,0,0,0,([]:List Pair),.slice none 0 0,[],_,([]:List Typ),.slice none 0 0,[],_,0,([]:List Item),.slice none 0 0,[],_,Co,(-1),0,k.keep [2,4,5,6,7,22,23,24] z,(((m.addNil (u:=w0)).addNil (u:=w0)).addNil (u:=w0)).sel [5,0,1,2,3,4] z (by decide),(Qbr _),(Qbr _),(Qbr _),By,h⟩
theorem Qvr (fu:Nat) {w0:World} (t1:Typ) (x2:Int) {b3:Nat} (Aa:bx w0 b3 [I x2] 3) {r:Bool}
    (h:Qnu fu t1 x2=some r) :
    Calls Tryz.prog 164 #[.agg (Flat.e (t1)).toArray,pt b3] w0 λe w=>e=.returned (.bool (r))∧Ext [] w0 w:=by
 refine en (vs:=[_,_]) func164 z ntmps164 z λa k m=>?_;unfold Qnu at h;refine wr (Qbv (cs:=[I t1.f4,I t1.fW,I t1.fH,I t1.fD,I t1.fO,I t1.fQ,I t1.fL]) m k z z z z z z λb5 w7 a k m e Ab=>pN 1 k z λa k=>nn (wr (fl Qr4 t13 m 0 Ab k z z λa k=>sv k z (Qao t13 (r:=[]) (Aa.at (m.a00 Aa.lt1) 0 1 z z z) k z z) λa k=>pN 2 k z λa k=>nn (wp_ret (fS h k m z z)))))
theorem Qgz (fu:Nat) {w0:World} (Ab:List Typ) (f5:Typ→Option Bool) {v2:Value} {F3:List Nat} (Ac:rd w0 F3 [v2] Ab) {v6:Value} (Ak:Quv Tryz.prog w0 v6 f5) {r:Int}
    (h:Qbh fu Ab f5=some r) :
    Calls Tryz.prog 150 #[v2,v6] w0 λe w=>e=.returned (I r)∧Ext [] w0 w:=by
 refine en (vs:=[_,_]) func150 z ntmps150 z λa k m=>?_;obtain ⟨Ag,Ae,rfl,Aj,Ah⟩:=Ak;unfold Qbh at h;refine wr (pN 1 k z λa k=>nn (wp_seq (wr (pN 1 k z λa k=>sv k z (Qba (α:=Typ) Ac k underlying50 z z) λa k=>pN 1 k z λa k=>nn (wp_block (Qaq (λn a w=>∃ (Aa:Int),K 19 [(0,v2),(1,(.func (.func Ag) #[] Ae.toArray)),(7,I (Ab.length:Int)),(8,I Aa)] a∧St [] w0 w []∧Qa2 fu Ab f5 n Aa=some r) ?_ ?_ fu _ _ ?_))))))
 · rintro a w ⟨_,_,_,h⟩;exact nS h
 · rintro As a Ar ⟨Aa,k,m,h⟩;rw [Qa2.eq_2] at h;unfold Qb9 at h;refine wr (pN 1 k z λa k=>nn (wp_seq (cI h k z (λAl h=>?_) λAl h=>?_)))
   · refine wp_skip (Qaa ?_);refine wp_seq (wp_block (wr (pN 2 k z λa k=>nn (wr (pN 3 k z λa k=>oE h λAm Ad h=>sv k z (Qai Ac Ad k Q4r z z z) λa k=>sv k z (Qnp Ac (m.a00 (Enc.rd_lt Ac)) Ad Qtk k z z) λa k=>oE h λAp Ai h=>Qsu k Aj z z z z z z (Ah _ _ _ _ m.ext z Ai) λAo Aq hR=>?_)))));obtain ⟨rfl,e⟩:=hR;refine ⟨_,z,λa k=>?_⟩;have m:=m.step e;refine nn (cI h k z (λAf h=>?_) λAf h=>?_)
     · refine wr (pN 2 k z λa k=>nn (wp_ret (Qag (Qad (Qad (Qag (Qad ?_)))))));refine fS h k m z z
     refine wp_skip (Qaf (Qaa ?_));refine wp_region_lit (pN 2 k z λa k=>nn ?_);exact ⟨w64 (Aa+1),k.keep [0,1,7,8] z,m.sl [] z,h⟩
   refine wp_exit (Qae (Qae (Qak (Qaa ?_))));refine wr (pN 1 k z λa k=>nn (wp_ret (fS h k m z z)))
 exact ⟨0,k.keep [0,1,7,8] z,m.sl [] z,h⟩
theorem Qr7 (fu:Nat) {w0:World} (r1:Request) (Ac:Int) {Ae:List Value} {F3:List Nat} (Aj:rd w0 F3 Ae r1) {r:Typ×Bool}
    (h:Qhi fu r1 Ac=some r) :
    Calls Tryz.prog 111 #[.agg Ae.toArray,I Ac] w0 λe w=>e=.returned (.tuple #[.agg (Flat.e r.1).toArray,.bool (r.2)])∧Ext [] w0 w:=by
 refine en (vs:=[_,_]) func111 z ntmps111 z λa k m=>?_;obtain ⟨v6,F7,v8,F9,Am,Bd,rfl,rfl,Bb,Ab,Ay⟩:=Aj;unfold Qhi at h;refine wr (Qbv (cs:=(cR r1 v6 v8 Am)) m k z z z z z z λAu Be a k m e Af=>Qbv (cs:=[I Ac]) m k z z z z z z λAq Av a k m e Ah=>Qaz (cs:=[I 0,I 0,I 0,I 0,I 0,I 0,I 0]) m k zeroValue89 z z z z z λAz Aw a k m e Ag=>pN 1 k z λa k=>nn (wr (fl Qht Qvp m 2 Af k z z λa k=>pN 1 k z λa k=>oE h λAs Ao h=>?_)));refine cC k m call150 z (Qgz fu _ _ (m.r Ab) ⟨164,[pt Aq],z,call164,λw Ax Ar r e Al hx=>by subst Al; have m:=m.step e; exact Qvr fu _ _ (Ah.agr (m.a 1 rfl) (by simp)) hx⟩ Ao) λBa e a k m=>pN 1 k rfl λa k=>nn (wp_seq (wr (pN 2 k rfl λa k=>nn (cI h k rfl (λAk h=>?_) λAk h=>?_))))
 · refine wr (sv k z (Qbb Jcq k (cs:=#[I 0,I 0,I 0,I 0,I 0,I 0,I 0]) (ps:=[]) z z (by kernel_rfl)) λa k=>sT (cs':=[I 0,I 0,I 0,I 0,I 0,I 0,I 0]) sizeOf89 m 0 Ag 0 k z z λAt a k e m Ai=>pN 1 k z λa k=>nn (wp_ret (Qad ?_)));cases h;exact Qf6 k z (RV.cA k z Qtk (Ai.at (m.a 0 z) 0 7 z z z) z) (RV.tmp k z) ⟨z,m.ext⟩
 refine wp_skip (Qaa ?_);refine wr (fl Qht Qvp m 2 Af k z z λa k=>pN 1 k z λa k=>oE h λAa Ad h=>sv k z (Qai Ab Ad k Q4r z z z) λa k=>sv k z (Qnp Ab (m.a00 (Enc.rd_lt Ab)) Ad Qtk k z z) λa k=>sT (cs':=[I Aa.f4,I Aa.fW,I Aa.fH,I Aa.fD,I Aa.fO,I Aa.fQ,I Aa.fL]) sizeOf89 m 0 Ag 0 k z z λBc a k e m Ap=>pN 1 k z λa k=>nn (wp_ret ?_));cases h;exact Qf6 k z (RV.cA k z Qtk (Ap.at (m.a 0 z) 0 7 z z z) z) (RV.tmp k z) ⟨z,m.ext⟩
theorem Qsf (fu:Nat) {w0:World} (r1:Request) {Ad:List Value} {F3:List Nat} (Ai:rd w0 F3 Ad r1) {r:Typ×Bool}
    (h:Qhf fu r1=some r) :
    Calls Tryz.prog 96 #[.agg Ad.toArray] w0 λe w=>e=.returned (.tuple #[.agg (Flat.e r.1).toArray,.bool (r.2)])∧Ext [] w0 w:=by
 refine en (vs:=[_]) func96 z ntmps96 z λa k m=>?_;obtain ⟨v5,F6,v7,F8,v9,Ar,rfl,rfl,Ae,Ab,Ac⟩:=Ai;unfold Qhf at h;refine wr (Qbv (cs:=(cR r1 v5 v7 v9)) m k z z z z z z λAl Ao a k m e Af=>Qaz (cs:=[I 0,I 0,I 0,I 0,I 0,I 0,I 0]) m k zeroValue89 z z z z z λAk Am a k m e Aj=>pN 1 k z λa k=>nn (wr (sv k z (rL Qf7 m 1 Af 0 k z) λa k=>fl Qz4 t13 m 1 Af k z z λa k=>oE h λAa Ag h=>?_)));refine cC k m call111 z (Qr7 fu _ _ (Qah (m.r Ae) (m.r Ab) (m.r Ac)) Ag) λAq e a k m=>pN 2 k z λa k=>sT (cs':=[I Aa.1.f4,I Aa.1.fW,I Aa.1.fH,I Aa.1.fD,I Aa.1.fO,I Aa.1.fQ,I Aa.1.fL]) sizeOf89 m 0 Aj 0 k z z λAp a k e m Ah=>pN 1 k z λa k=>nn (wp_ret ?_);cases h;exact Qf6 k z (RV.cA k z Qtk (Ah.at (m.a 0 z) 0 7 z z z) z) (RV.tmp k z) ⟨z,m.ext⟩
theorem Qg5 (fu:Nat) {w0:World} (n1:Int)  {r:Bool}
    (h:Qds fu n1=some r) :
    Calls Tryz.prog 186 #[I n1] w0 λe w=>e=.returned (.bool (r))∧Ext [] w0 w:=by
 refine en (vs:=[_]) func186 z ntmps186 z λa k m=>?_;unfold Qds at h;refine wr (pN 1 k z λa k=>nn (wr (pN 1 k z λa k=>oE h λx2 Aa h=>cC k m call48 z (Qa9 fu _ _ _  Aa) λw5 e a k m=>pN 1 k z λa k=>nn (wp_ret (fS h k m z z)))))
theorem Qqk (fu:Nat) {w0:World} (x1:Pallet)  {r:Bool}
    (h:Qel fu x1=some r) :
    Calls Tryz.prog 139 #[.agg (Flat.e (x1)).toArray] w0 λe w=>e=.returned (.bool (r))∧Ext [] w0 w:=by
 refine en (vs:=[_]) func139 z ntmps139 z λa k m=>?_;unfold Qel at h;refine wr (Qbv (cs:=[I x1.fW,I x1.fD,I x1.fH,I x1.fQ]) m k z z z z z z λb2 w4 a k m e Ad=>pN 1 k z λa k=>nn (wr (fl Qwg t13 m 0 Ad k z z λa k=>oE h λx5 Ai h=>cC k m call186 z (Qg5 fu _  Ai) λw9 e a k m=>pN 1 k z λa k=>Qal (x5) (λAa=>?_) (λAa=>?_))))
 · have h:=Qax Aa h;refine rB k 6 z Aa λk=>fl Qt8 t13 m 0 Ad k z z λa k=>oE h λAg Ae h=>cC k m call186 z (Qg5 fu _  Ae) λAm e a k m=>pN 2 k z λa k=>Qal (Ag) (λAc=>?_) (λAc=>?_)
   · have h:=Qax Ac h;refine rB k 11 z Ac λk=>fl Qt0 t13 m 0 Ad k z z λa k=>oE h λAj Af h=>cC k m call186 z (Qg5 fu _  Af) λAk e a k m=>pN 2 k z λa k=>Qal (Aj) (λAb=>?_) (λAb=>?_)
     · have h:=Qax Ab h;refine rB k 16 z Ab λk=>fl Qsc t13 m 0 Ad k z z λa k=>oE h λAo Ah h=>cC k m call48 z (Qa9 fu _ _ _  Ah) λAl e a k m=>pN 2 k z λa k=>nn (wp_ret (fS h k m z z))
     have h:=Qav Ab h;refine rB k 16 z Ab λk=>pN 5 k z λa k=>nn (wp_ret (fS h k m z z))
   have h:=Qav Ac h;refine rB k 11 z Ac λk=>pN 10 k z λa k=>nn (wp_ret (fS h k m z z))
 have h:=Qav Aa h;refine rB k 6 z Aa λk=>pN 15 k z λa k=>nn (wp_ret (fS h k m z z))
theorem Qog (fu:Nat) {w0:World} (Ab:List Pair) (f5:Pair→Option Bool) {v2:Value} {F3:List Nat} (Ac:rd w0 F3 [v2] Ab) {v6:Value} (Ak:Quv Tryz.prog w0 v6 f5) {r:Int}
    (h:Qb5 fu Ab f5=some r) :
    Calls Tryz.prog 187 #[v2,v6] w0 λe w=>e=.returned (I r)∧Ext [] w0 w:=by
 refine en (vs:=[_,_]) func187 z ntmps187 z λa k m=>?_;obtain ⟨Ag,Ae,rfl,Aj,Ah⟩:=Ak;unfold Qb5 at h;refine wr (pN 1 k z λa k=>nn (wp_seq (wr (pN 1 k z λa k=>sv k z (Qba (α:=Pair) Ac k underlying49 z z) λa k=>pN 1 k z λa k=>nn (wp_block (Qaq (λn a w=>∃ (Aa:Int),K 19 [(0,v2),(1,(.func (.func Ag) #[] Ae.toArray)),(7,I (Ab.length:Int)),(8,I Aa)] a∧St [] w0 w []∧Qa5 fu Ab f5 n Aa=some r) ?_ ?_ fu _ _ ?_))))))
 · rintro a w ⟨_,_,_,h⟩;exact nS h
 · rintro As a Ar ⟨Aa,k,m,h⟩;rw [Qa5.eq_2] at h;unfold Qca at h;refine wr (pN 1 k z λa k=>nn (wp_seq (cI h k z (λAl h=>?_) λAl h=>?_)))
   · refine wp_skip (Qaa ?_);refine wp_seq (wp_block (wr (pN 2 k z λa k=>nn (wr (pN 3 k z λa k=>oE h λAm Ad h=>sv k z (Qai Ac Ad k Jar z z z) λa k=>sv k z (Qnp Ac (m.a00 (Enc.rd_lt Ac)) Ad Jf5 k z z) λa k=>oE h λAp Ai h=>Qsu k Aj z z z z z z (Ah _ _ _ _ m.ext z Ai) λAo Aq hR=>?_)))));obtain ⟨rfl,e⟩:=hR;refine ⟨_,z,λa k=>?_⟩;have m:=m.step e;refine nn (cI h k z (λAf h=>?_) λAf h=>?_)
     · refine wr (pN 2 k z λa k=>nn (wp_ret (Qag (Qad (Qad (Qag (Qad ?_)))))));refine fS h k m z z
     refine wp_skip (Qaf (Qaa ?_));refine wp_region_lit (pN 2 k z λa k=>nn ?_);exact ⟨w64 (Aa+1),k.keep [0,1,7,8] z,m.sl [] z,h⟩
   refine wp_exit (Qae (Qae (Qak (Qaa ?_))));refine wr (pN 1 k z λa k=>nn (wp_ret (fS h k m z z)))
 exact ⟨0,k.keep [0,1,7,8] z,m.sl [] z,h⟩
theorem Qgb (fu:Nat) {w0:World} (Aa:List Pair) (f5:Pair→Option Bool) {v2:Value} {F3:List Nat} (Ab:rd w0 F3 [v2] Aa) {v6:Value} (Ah:Quv Tryz.prog w0 v6 f5) {r:Bool}
    (h:Qa4 fu Aa f5=some r) :
    Calls Tryz.prog 140 #[v2,v6] w0 λe w=>e=.returned (.bool (r))∧Ext [] w0 w:=by
 refine en (vs:=[_,_]) func140 z ntmps140 z λa k m=>?_;obtain ⟨Ak,Ai,rfl,Af,Ad⟩:=Ah;unfold Qa4 at h;refine wr (pN 1 k z λa k=>nn (wr (pN 2 k z λa k=>oE h λAj Ag h=>cC k m call187 z (Qog fu _ _ (m.r Ab) ⟨_,_,z,Af,λw Ac Ae r e=>Ad w Ac Ae r (m.ext.trans e (by simp))⟩ Ag) λAl e a k m=>pN 2 k z λa k=>nn (wp_ret (fS h k m z z)))))
theorem Qv5 (fu:Nat) {w0:World} (p1:Pair)  {r:Bool}
    (h:Qjq fu p1=some r) :
    Calls Tryz.prog 141 #[.agg (Flat.e (p1)).toArray] w0 λe w=>e=.returned (.bool (r))∧Ext [] w0 w:=by
 refine en (vs:=[_]) func141 z ntmps141 z λa k m=>?_;unfold Qjq at h;refine wr (Qbv (cs:=[I p1.fA,I p1.fB]) m k z z z z z z λb2 w4 a k m e Ab=>pN 1 k z λa k=>nn (wr (fl Q2z t13 m 0 Ab k z z λa k=>oE h λx5 Ad h=>cC k m call48 z (Qa9 fu _ _ _  Ad) λw9 e a k m=>pN 2 k z λa k=>Qal (!x5) (λAa=>?_) (λAa=>?_))))
 · have h:=Qax Aa h;refine rB k 7 z Aa λk=>pN 6 k z λa k=>nn (wp_ret (fS h k m z z))
 have h:=Qav Aa h;refine rB k 7 z Aa λk=>fl Q2v t13 m 0 Ab k z z λa k=>oE h λAe Ac h=>cC k m call48 z (Qa9 fu _ _ _  Ac) λAf e a k m=>pN 3 k z λa k=>nn (wp_ret (fS h k m z z))
theorem Qdp (fu:Nat) {w0:World} (Aa:List Typ) (f5:Typ→Option Bool) {v2:Value} {F3:List Nat} (Ab:rd w0 F3 [v2] Aa) {v6:Value} (Ah:Quv Tryz.prog w0 v6 f5) {r:Bool}
    (h:Qau fu Aa f5=some r) :
    Calls Tryz.prog 103 #[v2,v6] w0 λe w=>e=.returned (.bool (r))∧Ext [] w0 w:=by
 refine en (vs:=[_,_]) func103 z ntmps103 z λa k m=>?_;obtain ⟨Ak,Ai,rfl,Af,Ad⟩:=Ah;unfold Qau at h;refine wr (pN 1 k z λa k=>nn (wr (pN 2 k z λa k=>oE h λAj Ag h=>cC k m call150 z (Qgz fu _ _ (m.r Ab) ⟨_,_,z,Af,λw Ac Ae r e=>Ad w Ac Ae r (m.ext.trans e (by simp))⟩ Ag) λAl e a k m=>pN 2 k z λa k=>nn (wp_ret (fS h k m z z)))))
theorem Q1g (fu:Nat) {w0:World} (x1:Typ)  {r:Bool}
    (h:Qp9 fu x1=some r) :
    Calls Tryz.prog 143 #[.agg (Flat.e (x1)).toArray] w0 λe w=>e=.returned (.bool (r))∧Ext [] w0 w:=by
 refine en (vs:=[_]) func143 z ntmps143 z λa k m=>?_;unfold Qp9 at h;refine wr (Qbv (cs:=[I x1.f4,I x1.fW,I x1.fH,I x1.fD,I x1.fO,I x1.fQ,I x1.fL]) m k z z z z z z λb2 w4 a k m e Aa=>pN 1 k z λa k=>nn (wr (fl Qr4 t13 m 0 Aa k z z λa k=>oE h λx5 Am h=>cC k m call48 z (Qa9 fu _ _ _  Am) λw9 e a k m=>pN 1 k z λa k=>Qal (x5) (λAd=>?_) (λAd=>?_))))
 · have h:=Qax Ad h;refine rB k 6 z Ad λk=>fl Qtt t13 m 0 Aa k z z λa k=>oE h λAj Aq h=>cC k m call186 z (Qg5 fu _  Aq) λAv e a k m=>pN 2 k z λa k=>Qal (Aj) (λAf=>?_) (λAf=>?_)
   · have h:=Qax Af h;refine rB k 11 z Af λk=>fl Qtn t13 m 0 Aa k z z λa k=>oE h λAr Ah h=>cC k m call186 z (Qg5 fu _  Ah) λBa e a k m=>pN 2 k z λa k=>Qal (Ar) (λAe=>?_) (λAe=>?_)
     · have h:=Qax Ae h;refine rB k 16 z Ae λk=>fl Qtu t13 m 0 Aa k z z λa k=>oE h λAp Ak h=>cC k m call186 z (Qg5 fu _  Ak) λAx e a k m=>pN 2 k z λa k=>Qal (Ap) (λAc=>?_) (λAc=>?_)
       · have h:=Qax Ac h;refine rB k 21 z Ac λk=>fl Q0a t13 m 0 Aa k z z λa k=>oE h λAs At h=>cC k m call48 z (Qa9 fu _ _ _  At) λAu e a k m=>pN 2 k z λa k=>Qal (As) (λAg=>?_) (λAg=>?_)
         · have h:=Qax Ag h;refine rB k 26 z Ag λk=>fl Qu7 t13 m 0 Aa k z z λa k=>oE h λAl Ao h=>cC k m call48 z (Qa9 fu _ _ _  Ao) λAz e a k m=>pN 2 k z λa k=>Qal (Al) (λAb=>?_) (λAb=>?_)
           · have h:=Qax Ab h;refine rB k 31 z Ab λk=>fl Qum t13 m 0 Aa k z z λa k=>oE h λAy Ai h=>cC k m call48 z (Qa9 fu _ _ _  Ai) λAw e a k m=>pN 2 k z λa k=>?_;have k:=k.keep [2] z;refine nn (wp_ret (fS h k m z z))
           have h:=Qav Ab h;refine rB k 31 z Ab λk=>pN 5 k z λa k=>?_;have k:=k.keep [2] z;refine nn (wp_ret (fS h k m z z))
         have h:=Qav Ag h;refine rB k 26 z Ag λk=>pN 10 k z λa k=>?_;have k:=k.keep [2] z;refine nn (wp_ret (fS h k m z z))
       have h:=Qav Ac h;refine rB k 21 z Ac λk=>pN 15 k z λa k=>?_;have k:=k.keep [2] z;refine nn (wp_ret (fS h k m z z))
     have h:=Qav Ae h;refine rB k 16 z Ae λk=>pN 20 k z λa k=>?_;have k:=k.keep [2] z;refine nn (wp_ret (fS h k m z z))
   have h:=Qav Af h;refine rB k 11 z Af λk=>pN 25 k z λa k=>?_;have k:=k.keep [2] z;refine nn (wp_ret (fS h k m z z))
 have h:=Qav Ad h;refine rB k 6 z Ad λk=>pN 30 k z λa k=>?_;have k:=k.keep [2] z;refine nn (wp_ret (fS h k m z z))
theorem Qvz (fu:Nat) {w0:World} (t1:Typ)  {r:Bool}
    (h:Qjs fu t1=some r) :
    Calls Tryz.prog 142 #[.agg (Flat.e (t1)).toArray] w0 λe w=>e=.returned (.bool (r))∧Ext [] w0 w:=by
 refine en (vs:=[_]) func142 z ntmps142 z λa k m=>?_;unfold Qjs at h;refine wr (Qbv (cs:=[I t1.f4,I t1.fW,I t1.fH,I t1.fD,I t1.fO,I t1.fQ,I t1.fL]) m k z z z z z z λb2 w4 a k m e Aa=>pN 1 k z λa k=>nn (wr (sv k z (rL Qtk m 0 Aa 0 k z) λa k=>oE h λx5 Ab h=>cC k m call143 z (Q1g fu (t1:Typ)  Ab) λw9 e a k m=>pN 2 k z λa k=>nn (wp_ret (fS h k m z z)))))
theorem Q08 (fu:Nat) {w0:World} (x1:Item)  {r:Bool}
    (h:Qqb fu x1=some r) :
    Calls Tryz.prog 144 #[.agg (Flat.e (x1)).toArray] w0 λe w=>e=.returned (.bool (r))∧Ext [] w0 w:=by
 refine en (vs:=[_]) func144 z ntmps144 z λa k m=>?_;unfold Qqb at h;refine wr (Qbv (cs:=[I x1.f4,I x1.fW,I x1.fH,I x1.fD,I x1.fQ,I x1.fM,I x1.fF]) m k z z z z z z λb2 w4 a k m e Aa=>pN 1 k z λa k=>nn (wr (fl Qz6 t13 m 0 Aa k z z λa k=>oE h λx5 Am h=>cC k m call48 z (Qa9 fu _ _ _  Am) λw9 e a k m=>pN 1 k z λa k=>Qal (x5) (λAd=>?_) (λAd=>?_))))
 · have h:=Qax Ad h;refine rB k 6 z Ad λk=>fl Qz9 t13 m 0 Aa k z z λa k=>oE h λAj Aq h=>cC k m call186 z (Qg5 fu _  Aq) λAv e a k m=>pN 2 k z λa k=>Qal (Aj) (λAf=>?_) (λAf=>?_)
   · have h:=Qax Af h;refine rB k 11 z Af λk=>fl Q0e t13 m 0 Aa k z z λa k=>oE h λAr Ah h=>cC k m call186 z (Qg5 fu _  Ah) λBa e a k m=>pN 2 k z λa k=>Qal (Ar) (λAe=>?_) (λAe=>?_)
     · have h:=Qax Ae h;refine rB k 16 z Ae λk=>fl Q0c t13 m 0 Aa k z z λa k=>oE h λAp Ak h=>cC k m call186 z (Qg5 fu _  Ak) λAx e a k m=>pN 2 k z λa k=>Qal (Ap) (λAc=>?_) (λAc=>?_)
       · have h:=Qax Ac h;refine rB k 21 z Ac λk=>fl Qwd t13 m 0 Aa k z z λa k=>oE h λAs At h=>cC k m call48 z (Qa9 fu _ _ _  At) λAu e a k m=>pN 2 k z λa k=>Qal (As) (λAg=>?_) (λAg=>?_)
         · have h:=Qax Ag h;refine rB k 26 z Ag λk=>fl Qwl t13 m 0 Aa k z z λa k=>oE h λAl Ao h=>cC k m call48 z (Qa9 fu _ _ _  Ao) λAz e a k m=>pN 2 k z λa k=>Qal (Al) (λAb=>?_) (λAb=>?_)
           · have h:=Qax Ab h;refine rB k 31 z Ab λk=>fl Q0o t13 m 0 Aa k z z λa k=>oE h λAy Ai h=>cC k m call48 z (Qa9 fu _ _ _  Ai) λAw e a k m=>pN 2 k z λa k=>?_;have k:=k.keep [2] z;refine nn (wp_ret (fS h k m z z))
           have h:=Qav Ab h;refine rB k 31 z Ab λk=>pN 5 k z λa k=>?_;have k:=k.keep [2] z;refine nn (wp_ret (fS h k m z z))
         have h:=Qav Ag h;refine rB k 26 z Ag λk=>pN 10 k z λa k=>?_;have k:=k.keep [2] z;refine nn (wp_ret (fS h k m z z))
       have h:=Qav Ac h;refine rB k 21 z Ac λk=>pN 15 k z λa k=>?_;have k:=k.keep [2] z;refine nn (wp_ret (fS h k m z z))
     have h:=Qav Ae h;refine rB k 16 z Ae λk=>pN 20 k z λa k=>?_;have k:=k.keep [2] z;refine nn (wp_ret (fS h k m z z))
   have h:=Qav Af h;refine rB k 11 z Af λk=>pN 25 k z λa k=>?_;have k:=k.keep [2] z;refine nn (wp_ret (fS h k m z z))
 have h:=Qav Ad h;refine rB k 6 z Ad λk=>pN 30 k z λa k=>?_;have k:=k.keep [2] z;refine nn (wp_ret (fS h k m z z))
theorem Qyj (fu:Nat) {w0:World} (r1:Request) {As:List Value} {F3:List Nat} (Ay:rd w0 F3 As r1) {r:Bool}
    (h:Qm3 fu r1=some r) :
    Calls Tryz.prog 97 #[.agg As.toArray] w0 λe w=>e=.returned (.bool (r))∧Ext [] w0 w:=by
 refine en (vs:=[_]) func97 z ntmps97 z λa k m=>?_;obtain ⟨v5,F6,v7,F8,v9,Cb,rfl,rfl,Ao,Am,Ah⟩:=Ay;unfold Qm3 at h;refine wr (Qbv (cs:=(cR r1 v5 v7 v9)) m k z z z z z z λAj Ar a k m e Aa=>pN 1 k z λa k=>nn (Qcw (λa w=>K 70 [(1,pt Aj)] a∧St [] w0 w [([Aj],Ar)]∧Qmb fu r1=some r) ?_ ?_))
 · rintro a Ch ⟨k,m,h⟩;unfold Qmb at h;refine wp_seq (wr (fl Qp2 Q04 m 0 Aa k z z λa k=>oE h λCi Au h=>cC k m call140 z (Qgb fu _ _ (m.r Ao) ⟨141,[],z,call141,λw Bx Bs r e Ax hx=>by subst Ax; have m:=m.step e; exact Qv5 fu _  hx⟩ Au) λBv e a k m=>nn (cI h k rfl (λBg h=>?_) λBg h=>?_)))
   · refine wr (pN 1 k z λa k=>nn (wp_ret (Qad ?_)));refine fS h k m z z
   refine wp_skip (Qaa ?_);refine Qcw (λa w=>K 70 [(1,pt Aj)] a∧St [] w0 w [([Aj],Ar)]∧Qmx fu r1=some r) ?_ ?_
   · rintro a Cl ⟨k,m,h⟩;unfold Qmx at h;refine wr (pN 1 k z λa k=>nn (wp_seq (wr (fl Qhh Qvj m 0 Aa k z z λa k=>sv k z (Qba (α:=Item) Ah k underlying51 z z) λa k=>pN 1 k z λa k=>nn (wp_block (Qaq (λn a w=>∃ (Ak:Int) (Al:Int),K 70 [(3,I Ak),(54,v9),(55,I (r1.fV.length:Int)),(56,I Al)] a∧St [] w0 w []∧Qek fu r1 n Ak Al=some r) ?_ ?_ fu _ _ ?_))))))
     · rintro a w ⟨_,_,_,_,h⟩;exact nS h
     · rintro Cf a Bw ⟨Ak,Al,k,m,h⟩;rw [Qek.eq_2] at h;unfold Qip at h;refine wr (pN 1 k z λa k=>nn (wp_seq (cI h k z (λBk h=>?_) λBk h=>?_)))
       · refine wp_skip (Qaa ?_);refine wp_seq (wp_block (wr (oE h λAb Ap h=>sv k z (Qai Ah Ap k Q0f z z z) λa k=>sv k z (Qnp Ah (m.a00 (Enc.rd_lt Ah)) Ap Q22 k z z) λa k=>Qaz (cs:=[I 0,I 0,I 0,I 0,I 0,I 0,I 0]) m k zeroValue91 z z z z z λCe Cc a k m e Bp=>sT (cs':=[I Ab.f4,I Ab.fW,I Ab.fH,I Ab.fD,I Ab.fQ,I Ab.fM,I Ab.fF]) sizeOf91 m 0 Bp 0 k z z λBq a k e m Aq=>nn (wp_seq (wr (sv k z (rL Q22 m 0 Aq 0 k z) λa k=>oE h λCg Bc h=>cC k m call144 z (Q08 fu (Ab:Item)  Bc) λBr e a k m=>?_))))));refine pN 1 k z λa k=>nn (cI h k z (λBd h=>?_) λBd h=>?_)
         · refine wr (pN 1 k z λa k=>nn (wp_ret (Qad (Qag (Qad (Qad (Qag (Qad ?_))))))));refine fS h k m z z
         refine wp_skip (Qaa ?_);refine wp_region_lit (pN 1 k z λa k=>fl Q0o t13 m 0 Aq k z z λa k=>pN 2 k z λa k=>wpList_nil (Qaf (Qaa ?_)));refine wp_region_lit (pN 2 k z λa k=>nn ?_);exact ⟨w64 (Ak+Ab.fF),w64 (Al+1),k.keep [3,54,55,56] z,m.sl [] z,h⟩
       refine wp_exit (Qae (Qae (Qak (Qaa ?_))));refine wr (pN 3 k z λa k=>nn (wp_ret (fS h k m z z)))
     exact ⟨0,0,k.keep [3,54,55,56] z,m.sl [] z,h⟩
   refine wr (fl Qht Qvp m 0 Aa k z z λa k=>sv k z (Qba (α:=Typ) Am k underlying50 z z) λa k=>oE h λAz Ba h=>cC k m call48 z (Qa9 fu _ _ _  Ba) λBu e a k m=>pN 2 k z λa k=>Qal (!Az) (λAd=>?_) (λAd=>?_))
   · have h:=Qax Ad h;refine rB k 36 z Ad λk=>pN 16 k z λa k=>?_;have k:=k.keep [1,52] z;refine nn (wp_cond_true (k.ev z) (wr (pN 1 k z λa k=>nn (wp_ret (Qad ?_)))));refine fS h k m z z
   have h:=Qav Ad h;refine rB k 36 z Ad λk=>fl Qht Qvp m 0 Aa k z z λa k=>oE h λBl Bb h=>cC k m call103 z (Qdp fu _ _ (m.r Am) ⟨142,[],z,call142,λw Bz Ck r e Bn hx=>by subst Bn; have m:=m.step e; exact Qvz fu _  hx⟩ Bb) λCa e a k m=>pN 2 k rfl λa k=>Qal (Bl) (λAc=>?_) (λAc=>?_)
   · have h:=Qax Ac h;refine rB k 41 z Ac λk=>pN 11 k z λa k=>?_;have k:=k.keep [1,52] z;refine nn (wp_cond_true (k.ev z) (wr (pN 1 k z λa k=>nn (wp_ret (Qad ?_)))));refine fS h k m z z
   have h:=Qav Ac h;refine rB k 41 z Ac λk=>fl Qz4 t13 m 0 Aa k z z λa k=>oE h λAt Bm h=>cC k m call48 z (Qa9 fu _ _ _  Bm) λCj e a k m=>pN 3 k z λa k=>Qal (!At) (λAe=>?_) (λAe=>?_)
   · have h:=Qax Ae h;refine rB k 47 z Ae λk=>pN 5 k z λa k=>?_;have k:=k.keep [1,52] z;refine nn (wp_cond_true (k.ev z) (wr (pN 1 k z λa k=>nn (wp_ret (Qad ?_)))));refine fS h k m z z
   have h:=Qav Ae h;refine rB k 47 z Ae λk=>fl Qhh Qvj m 0 Aa k z z λa k=>sv k z (Qba (α:=Item) Ah k underlying51 z z) λa k=>pN 2 k z λa k=>?_;have k:=k.keep [1,52] z;refine nn (cI h k z (λBi h=>?_) λBi h=>?_)
   · refine wr (pN 1 k z λa k=>nn (wp_ret (Qad ?_)));refine fS h k m z z
   refine wp_skip (Qaa ?_);exact ⟨k.keep [1] z,m.sl [0] z,h⟩
 refine wr (fl Qyl t13 m 0 Aa k z z λa k=>oE h λAv Bo h=>cC k m call48 z (Qa9 fu _ _ _  Bo) λCd e a k m=>pN 2 k z λa k=>Qal (!Av) (λAf=>?_) (λAf=>?_))
 · have h:=Qax Af h;refine rB k 10 z Af λk=>pN 17 k z λa k=>nn (wp_cond_true (k.ev z) (wr (pN 1 k z λa k=>?_)));have k:=k.keep [2] z;refine nn (wp_ret (Qad ?_));refine fS h k m z z
 have h:=Qav Af h;refine rB k 10 z Af λk=>sv k z (Ql3 Qty k z z) λa k=>sv k z (rL Qvw m 0 Aa 1 k z) λa k=>oE h λBj Bf h=>cC k m call139 z (Qqk fu (r1.fJ:Pallet)  Bf) λBt e a k m=>pN 3 k z λa k=>Qal (!Bj) (λAi=>?_) (λAi=>?_)
 · have h:=Qax Ai h;refine rB k 16 z Ai λk=>pN 11 k z λa k=>nn (wp_cond_true (k.ev z) (wr (pN 1 k z λa k=>?_)));have k:=k.keep [2] z;refine nn (wp_ret (Qad ?_));refine fS h k m z z
 have h:=Qav Ai h;refine rB k 16 z Ai λk=>fl Qtd t13 m 0 Aa k z z λa k=>oE h λBh Be h=>cC k m call48 z (Qa9 fu _ _ _  Be) λBy e a k m=>pN 3 k z λa k=>Qal (!Bh) (λAg=>?_) (λAg=>?_)
 · have h:=Qax Ag h;refine rB k 22 z Ag λk=>pN 5 k z λa k=>nn (wp_cond_true (k.ev z) (wr (pN 1 k z λa k=>?_)));have k:=k.keep [2] z;refine nn (wp_ret (Qad ?_));refine fS h k m z z
 have h:=Qav Ag h;refine rB k 22 z Ag λk=>fl Qp2 Q04 m 0 Aa k z z λa k=>sv k z (Qba (α:=Pair) Ao k underlying49 z z) λa k=>pN 2 k z λa k=>nn (cI h k z (λAw h=>?_) λAw h=>?_)
 · refine wr (pN 1 k z λa k=>?_);have k:=k.keep [2] z;refine nn (wp_ret (Qad ?_));refine fS h k m z z
 refine wp_skip (Qaa ?_);exact ⟨k.keep [1] z,m.sl [0] z,h⟩
theorem Qwz (fu:Nat) {w0:World} (q1:Typ) (x2:Typ) {b3:Nat} (Aa:bx w0 b3 [I x2.f4,I x2.fW,I x2.fH,I x2.fD,I x2.fO,I x2.fQ,I x2.fL] 89) {r:Bool}
    (h:Qpu fu q1 x2=some r) :
    Calls Tryz.prog 145 #[.agg (Flat.e (q1)).toArray,pt b3] w0 λe w=>e=.returned (.bool (r))∧Ext [] w0 w:=by
 refine en (vs:=[_,_]) func145 z ntmps145 z λa k m=>?_;unfold Qpu at h;refine wr (Qbv (cs:=[I q1.f4,I q1.fW,I q1.fH,I q1.fD,I q1.fO,I q1.fQ,I q1.fL]) m k z z z z z z λb5 w7 a k m e Ab=>pN 1 k z λa k=>nn (wr (fl Qr4 t13 m 0 Ab k z z λa k=>sv k z (Ql3 Qr4 k z z) λa k=>sv k z (Qao t13 (r:=[]) (Aa.at (m.a00 Aa.lt1) 0 1 z z z) k z z) λa k=>pN 2 k z λa k=>nn (wp_ret (fS h k m z z)))))
theorem Qw4 (fu:Nat) {w0:World} (q1:Item) (x2:Item) {b3:Nat} (Aa:bx w0 b3 [I x2.f4,I x2.fW,I x2.fH,I x2.fD,I x2.fQ,I x2.fM,I x2.fF] 91) {r:Bool}
    (h:Qph fu q1 x2=some r) :
    Calls Tryz.prog 146 #[.agg (Flat.e (q1)).toArray,pt b3] w0 λe w=>e=.returned (.bool (r))∧Ext [] w0 w:=by
 refine en (vs:=[_,_]) func146 z ntmps146 z λa k m=>?_;unfold Qph at h;refine wr (Qbv (cs:=[I q1.f4,I q1.fW,I q1.fH,I q1.fD,I q1.fQ,I q1.fM,I q1.fF]) m k z z z z z z λb5 w7 a k m e Ab=>pN 1 k z λa k=>nn (wr (fl Qz6 t13 m 0 Ab k z z λa k=>sv k z (Ql3 Qz6 k z z) λa k=>sv k z (Qao t13 (r:=[]) (Aa.at (m.a00 Aa.lt1) 0 1 z z z) k z z) λa k=>pN 2 k z λa k=>nn (wp_ret (fS h k m z z)))))
theorem Qnr (fu:Nat) {w0:World} (Ab:List Item) (f5:Item→Option Bool) {v2:Value} {F3:List Nat} (Ac:rd w0 F3 [v2] Ab) {v6:Value} (Ak:Quv Tryz.prog w0 v6 f5) {r:Int}
    (h:Qby fu Ab f5=some r) :
    Calls Tryz.prog 149 #[v2,v6] w0 λe w=>e=.returned (I r)∧Ext [] w0 w:=by
 refine en (vs:=[_,_]) func149 z ntmps149 z λa k m=>?_;obtain ⟨Ag,Ae,rfl,Aj,Ah⟩:=Ak;unfold Qby at h;refine wr (pN 1 k z λa k=>nn (wp_seq (wr (pN 1 k z λa k=>sv k z (Qba (α:=Item) Ac k underlying51 z z) λa k=>pN 1 k z λa k=>nn (wp_block (Qaq (λn a w=>∃ (Aa:Int),K 19 [(0,v2),(1,(.func (.func Ag) #[] Ae.toArray)),(7,I (Ab.length:Int)),(8,I Aa)] a∧St [] w0 w []∧Qa3 fu Ab f5 n Aa=some r) ?_ ?_ fu _ _ ?_))))))
 · rintro a w ⟨_,_,_,h⟩;exact nS h
 · rintro As a Ar ⟨Aa,k,m,h⟩;rw [Qa3.eq_2] at h;unfold Qcb at h;refine wr (pN 1 k z λa k=>nn (wp_seq (cI h k z (λAl h=>?_) λAl h=>?_)))
   · refine wp_skip (Qaa ?_);refine wp_seq (wp_block (wr (pN 2 k z λa k=>nn (wr (pN 3 k z λa k=>oE h λAm Ad h=>sv k z (Qai Ac Ad k Q0f z z z) λa k=>sv k z (Qnp Ac (m.a00 (Enc.rd_lt Ac)) Ad Q22 k z z) λa k=>oE h λAp Ai h=>Qsu k Aj z z z z z z (Ah _ _ _ _ m.ext z Ai) λAo Aq hR=>?_)))));obtain ⟨rfl,e⟩:=hR;refine ⟨_,z,λa k=>?_⟩;have m:=m.step e;refine nn (cI h k z (λAf h=>?_) λAf h=>?_)
     · refine wr (pN 2 k z λa k=>nn (wp_ret (Qag (Qad (Qad (Qag (Qad ?_)))))));refine fS h k m z z
     refine wp_skip (Qaf (Qaa ?_));refine wp_region_lit (pN 2 k z λa k=>nn ?_);exact ⟨w64 (Aa+1),k.keep [0,1,7,8] z,m.sl [] z,h⟩
   refine wp_exit (Qae (Qae (Qak (Qaa ?_))));refine wr (pN 1 k z λa k=>nn (wp_ret (fS h k m z z)))
 exact ⟨0,k.keep [0,1,7,8] z,m.sl [] z,h⟩
theorem Qdo (fu:Nat) {w0:World} (Aa:List Item) (f5:Item→Option Bool) {v2:Value} {F3:List Nat} (Ab:rd w0 F3 [v2] Aa) {v6:Value} (Ah:Quv Tryz.prog w0 v6 f5) {r:Bool}
    (h:Qa6 fu Aa f5=some r) :
    Calls Tryz.prog 100 #[v2,v6] w0 λe w=>e=.returned (.bool (r))∧Ext [] w0 w:=by
 refine en (vs:=[_,_]) func100 z ntmps100 z λa k m=>?_;obtain ⟨Ak,Ai,rfl,Af,Ad⟩:=Ah;unfold Qa6 at h;refine wr (pN 1 k z λa k=>nn (wr (pN 2 k z λa k=>oE h λAj Ag h=>cC k m call149 z (Qnr fu _ _ (m.r Ab) ⟨_,_,z,Af,λw Ac Ae r e=>Ad w Ac Ae r (m.ext.trans e (by simp))⟩ Ag) λAl e a k m=>pN 2 k z λa k=>nn (wp_ret (fS h k m z z)))))
theorem Qws (fu:Nat) {w0:World} (p1:Pair) (x2:Request) {v5:Value} {F6:List Nat} {v8:Value} {F9:List Nat} {Ac:Value} {Ae:List Nat} {b3:Nat} (Ab:bx w0 b3 (cR x2 v5 v8 Ac) 53) (Aj:rd w0 F6 [v5] x2.fR) (Ai:rd w0 F9 [v8] x2.fG) (Ag:rd w0 Ae [Ac] x2.fV) {r:Bool}
    (h:Qlr fu p1 x2=some r) :
    Calls Tryz.prog 147 #[.agg (Flat.e (p1)).toArray,pt b3] w0 λe w=>e=.returned (.bool (r))∧Ext [] w0 w:=by
 refine en (vs:=[_,_]) func147 z ntmps147 z λa k m=>?_;unfold Qlr at h;refine wr (Qbv (cs:=[I p1.fA,I p1.fB]) m k z z z z z z λAf Ah a k m e Ad=>pN 1 k z λa k=>nn (wr (fl Q2z t13 m 0 Ad k z z λa k=>sv k z (Ql3 Qtd k z z) λa k=>sv k z (Qao t13 (r:=[]) (Ab.at (m.a00 Ab.lt1) 5 1 z z z) k z z) λa k=>pN 2 k z λa k=>Qal (decide (p1.fA≥x2.fU)) (λAa=>?_) (λAa=>?_))))
 · have h:=Qax Aa h;refine rB k 9 z Aa λk=>pN 7 k z λa k=>nn (wp_ret (fS h k m z z))
 have h:=Qav Aa h;refine rB k 9 z Aa λk=>fl Q2v t13 m 0 Ad k z z λa k=>sv k z (Ql3 Qtd k z z) λa k=>sv k z (Qao t13 (r:=[]) (Ab.at (m.a00 Ab.lt1) 5 1 z z z) k z z) λa k=>pN 3 k z λa k=>nn (wp_ret (fS h k m z z))
theorem Qz1 (fu:Nat) {w0:World} (r1:Request) {As:List Value} {F3:List Nat} (Bb:rd w0 F3 As r1) {r:Bool}
    (h:Qo7 fu r1=some r) :
    Calls Tryz.prog 98 #[.agg As.toArray] w0 λe w=>e=.returned (.bool (r))∧Ext [] w0 w:=by
 refine en (vs:=[_]) func98 z ntmps98 z λa k m=>?_;obtain ⟨v5,F6,v7,F8,v9,Cb,rfl,rfl,Ai,Aa,Ab⟩:=Bb;unfold Qo7 at h;refine wr (Qbv (cs:=(cR r1 v5 v7 v9)) m k z z z z z z λAf Am a k m e Ad=>pN 1 k z λa k=>nn (wp_seq (wr (fl Qht Qvp m 0 Ad k z z λa k=>sv k z (Qba (α:=Typ) Aa k underlying50 z z) λa k=>pN 1 k z λa k=>nn (wp_block (Qaq (λn a w=>∃ (Al:Int),K 59 [(1,pt Af),(10,v7),(11,I (r1.fG.length:Int)),(12,I Al)] a∧St [] w0 w [([Af],Am)]∧Qfc fu r1 n Al=some r) ?_ ?_ fu _ _ ?_))))))
 · rintro a w ⟨_,_,_,h⟩;exact nS h
 · rintro Cg a Co ⟨Al,k,m,h⟩;rw [Qfc.eq_2] at h;unfold Qld at h;refine wr (pN 1 k z λa k=>nn (wp_seq (cI h k z (λBc h=>?_) λBc h=>?_)))
   · refine wp_skip (Qaa ?_);refine wp_seq (wp_block (wr (pN 1 k z λa k=>oE h λAg Aq h=>sv k z (Qai Aa Aq k Q4r z z z) λa k=>sv k z (Qnp Aa (m.a00 (Enc.rd_lt Aa)) Aq Qtk k z z) λa k=>Qaz (cs:=[I 0,I 0,I 0,I 0,I 0,I 0,I 0]) m k zeroValue89 z z z z z λAz Cp a k m e Bo=>pN 1 k z λa k=>sT (cs':=[I Ag.f4,I Ag.fW,I Ag.fH,I Ag.fD,I Ag.fO,I Ag.fQ,I Ag.fL]) sizeOf89 m 0 Bo 0 k z z λCq a k e m Bj=>nn (wr (fl Qht Qvp m 1 Ad k z z λa k=>pN 1 k z λa k=>oE h λCl Bk h=>?_)))));refine Q4y Aa Bk k Q4r z z z z z z λBv a k Ap=>pN 1 k z λa k=>oE h λBy Be h=>cC k m call103 z (Qdp fu _ _ (m.r Ap) ⟨145,[pt Az],z,call145,λw Cf Ce r e Bm hx=>by subst Bm; have m:=m.step e; exact Qwz fu _ _ (Bj.agr (m.a 0 rfl) (by simp)) hx⟩ Be) λBp e a k m=>nn (cI h k rfl (λBg h=>?_) λBg h=>?_)
     · refine wr (pN 1 k z λa k=>nn (wp_ret (Qag (Qad (Qad (Qag (Qad ?_)))))));refine fS h k m z z
     refine wp_skip (Qaf (Qaa ?_));refine wp_region_lit (pN 2 k z λa k=>nn ?_);exact ⟨w64 (Al+1),k.keep [1,10,11,12] z,m.sl [1] z,h⟩
   refine wp_exit (Qae (Qae (Qak (Qaa ?_))));refine wp_seq (wr (fl Qhh Qvj m 0 Ad k z z λa k=>sv k z (Qba (α:=Item) Ab k underlying51 z z) λa k=>pN 1 k z λa k=>nn (wp_block (Qaq (λn a w=>∃ (Ah:Int),K 59 [(1,pt Af),(25,v9),(26,I (r1.fV.length:Int)),(27,I Ah)] a∧St [] w0 w [([Af],Am)]∧Qdm fu r1 n Ah=some r) ?_ ?_ fu _ _ ?_))))
   · rintro a w ⟨_,_,_,h⟩;exact nS h
   · rintro Aw a Cc ⟨Ah,k,m,h⟩;rw [Qdm.eq_2] at h;unfold Qkl at h;refine wr (pN 1 k z λa k=>nn (wp_seq (cI h k z (λAx h=>?_) λAx h=>?_)))
     · refine wp_skip (Qaa ?_);refine Qcw (λa w=>K 59 [(1,pt Af),(25,v9),(26,I (r1.fV.length:Int)),(27,I Ah)] a∧St [] w0 w [([Af],Am)]∧Qof fu (Qdm fu r1 Aw) Ah=some r) ?_ ?_
       · rintro a Cj ⟨k,m,h⟩;unfold Qof at h;refine wp_region_lit (pN 2 k z λa k=>nn ?_);exact ⟨w64 (Ah+1),k.keep [1,25,26,27] z,m.sl [0] z,h⟩
       refine wp_block (wr (pN 1 k z λa k=>oE h λAe Ao h=>sv k z (Qai Ab Ao k Q0f z z z) λa k=>sv k z (Qnp Ab (m.a00 (Enc.rd_lt Ab)) Ao Q22 k z z) λa k=>Qaz (cs:=[I 0,I 0,I 0,I 0,I 0,I 0,I 0]) m k zeroValue91 z z z z z λBd Bs a k m e Bl=>pN 1 k z λa k=>sT (cs':=[I Ae.f4,I Ae.fW,I Ae.fH,I Ae.fD,I Ae.fQ,I Ae.fM,I Ae.fF]) sizeOf91 m 0 Bl 0 k z z λBw a k e m At=>nn (wr (fl Qwl t13 m 0 At k z z λa k=>sv k z (Ql3 Qtd k z z) λa k=>?_))));refine sv k z (Qq4 t13 m 1 Ad 5 k z z z z z) λa k=>pN 2 k z λa k=>Qal (decide (Ae.fM≥r1.fU)) (λAj=>?_) (λAj=>?_)
       · have h:=Qax Aj h;refine rB k 37 z Aj λk=>pN 7 k z λa k=>nn (wp_cond_true (k.ev z) (wr (pN 1 k z λa k=>nn (wp_ret (Qag (Qad (Qad (Qag (Qad ?_)))))))));refine fS h k m z z
       have h:=Qav Aj h;refine rB k 37 z Aj λk=>fl Qhh Qvj m 1 Ad k z z λa k=>pN 1 k z λa k=>oE h λCr Au h=>Q4y Ab Au k Q0f z z z z z z λBt a k Ar=>pN 1 k z λa k=>oE h λBz Av h=>cC k m call100 z (Qdo fu _ _ (m.r Ar) ⟨146,[pt Bd],z,call146,λw Bu Br r e Bh hx=>by subst Bh; have m:=m.step e; exact Qw4 fu _ _ (At.agr (m.a 0 rfl) (by simp)) hx⟩ Av) λCm e a k m=>pN 1 k rfl λa k=>nn (cI h k rfl (λBn h=>?_) λBn h=>?_)
       · refine wr (pN 1 k z λa k=>nn (wp_ret (Qag (Qad (Qad (Qag (Qad ?_)))))));refine fS h k m z z
       refine wp_skip (Qaf (Qaa ?_));exact ⟨k.keep [1,25,26,27] z,m.sl [1] z,h⟩
     refine wp_exit (Qae (Qae (Qak (Qaa ?_))));refine wr (sv k z (rL Qf7 m 0 Ad 0 k z) λa k=>oE h λAc Ay h=>cC k m call96 z (Qsf fu _ (Qah (m.r Ai) (m.r Aa) (m.r Ab)) Ay) λCn e a k m=>pN 3 k z λa k=>Qaz (cs:=[I 0,I 0,I 0,I 0,I 0,I 0,I 0]) m k zeroValue89 z z z z z λCs Ci a k m e Ba=>?_);refine sT (cs':=[I Ac.1.f4,I Ac.1.fW,I Ac.1.fH,I Ac.1.fD,I Ac.1.fO,I Ac.1.fQ,I Ac.1.fL]) sizeOf89 m 0 Ba 0 k z z λBx a k e m Ca=>pN 1 k z λa k=>nn (wr (pN 2 k z λa k=>Qal (Ac.2) (λAk=>?_) (λAk=>?_)))
     · have h:=Qax Ak h;refine rB k 52 z Ak λk=>fl Qp2 Q04 m 1 Ad k z z λa k=>pN 1 k z λa k=>oE h λBq Bf h=>cC k m call140 z (Qgb fu _ _ (m.r Ai) ⟨147,[pt Af],z,call147,λw Cd Ch r e Bi hx=>by subst Bi; have m:=m.step e; exact Qws fu _ _ (Ad.agr (m.a 1 rfl) (by simp)) (m.r Ai) (m.r Aa) (m.r Ab) hx⟩ Bf) λCk e a k m=>pN 3 k rfl λa k=>nn (wp_ret (fS h k m rfl rfl))
     have h:=Qav Ak h;refine rB k 52 z Ak λk=>pN 7 k z λa k=>nn (wp_ret (fS h k m z z))
   exact ⟨0,k.keep [1,25,26,27] z,m.sl [0] z,h⟩
 exact ⟨0,k.keep [1,10,11,12] z,m.sl [0] z,h⟩
end Go.Proofs.YtpcmapfabndggabGreatDoor
