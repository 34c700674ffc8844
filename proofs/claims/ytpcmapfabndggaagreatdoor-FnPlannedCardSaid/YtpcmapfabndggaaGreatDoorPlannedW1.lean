/- FnPlanned: the walks.. -/
import Derived.Test.YtpcmapfabndggaaGreatDoorPlannedBWi5
import Derived.Test.YtpcmapfabndggaaGreatDoorPlannedBWs5
import Derived.Test.YtpcmapfabndggaaGreatDoorPlannedBWl1
import Derived.Test.YtpcmapfabndggaaGreatDoorPlannedD
set_option maxRecDepth 20000
set_option linter.unusedSimpArgs false
set_option linter.unusedVariables false
set_option linter.unnecessarySimpa false
namespace Go.Proofs.YtpcmapfabndggaaGreatDoor
open Go Go.RowKit
open Enc (rd ow)
open Arg (argv)
open Ret (retv)
open Go.Proofs.Tryz
theorem Qzb (fu:Nat) {w0:World} (hT:Tb Tryz.prog w0) (Ba:List U8) {v2:Value} {F3:List Nat} (At:rd w0 F3 [v2] Ba) {r:Bool}
    (h:Qq0 fu Ba=some r) :
    Calls Tryz.prog 3 #[v2] w0 λe w=>e=.returned (.bool (r))∧Ext [] w0 w:=by
 refine en (vs:=[_]) func3 z ntmps3 z λa k m=>?_;unfold Qq0 at h;refine wr (pN 1 k z λa k=>nn (wp_seq (wr (pN 1 k z λa k=>oE h λx5 Bs h=>cC k m call6 z (Q8u fu _ (m.r At) Bs) λw9 e a k m=>nn (cI h k z (λBi h=>?_) λBi h=>?_)))))
 · refine wr (pN 1 k z λa k=>nn (wp_ret (Qad ?_)));refine fS h k m z z
 refine wp_skip (Qaa ?_);refine wr (pN 1 k z λa k=>oE h λAa Bg h=>sC k call7 z (Qx6 fu _ (m.r At) Bg) λCq Cx hR=>?_);obtain ⟨Dg,Bl,rfl,e,Ax,Bk⟩:=hR;refine ⟨_,z,λa k=>?_⟩;have m:=m.nw e Bk Ax;obtain ⟨Ai,Dh,Am,Cp,Ah,Dd,rfl,rfl,Al,Aj,Ak,_⟩:=Ax;have m:=m.split2;have m:=m.split2at1;refine Qar (cs:=[I 0,I 0,I 0,I 0,I 0,I 0,.slice none 0 0,.slice none 0 0,I 0,.slice none 0 0]) m k zeroValue30 z z z z z λCw De a k m e Bm=>sT (cs':=(cR Aa Ai Am Ah)) sizeOf30 m 0 Bm 0 k z (Qb1 z (Qb1 z (Qb1 z (Qb1 z (Qb1 z (Qb1 z (Qb1 (Qhv (Enc.ow_rd Al)) (Qb1 (Qhv (Enc.ow_rd Aj)) (Qb1 z (Qb1 (Qhv (Enc.ow_rd Ak)) Qs5)))))))))) λDp a k e m As=>nn (wr (sv k z (rL Qfg m 0 As 0 k z) λa k=>oE h λAe Bc h=>?_));refine sC k call8 z (Q3z fu _ (Qah (m.q Al 1 z) (m.q Aj 2 z) (m.q Ak 3 z)) Bc) λDn Cf hR=>?_;obtain ⟨Dk,Bb,rfl,e,Av,Br⟩:=hR;refine ⟨_,z,λa k=>?_⟩;have m:=m.nw e Br Av;obtain ⟨Ad,Cs,Af,Ci,rfl,rfl,Ab,Ac,_⟩:=Av;have m:=m.split2
 refine pN 3 k z λa k=>Qar (cs:=[.slice none 0 0,.slice none 0 0]) m k zeroValue35 z z z z z λDm Cy a k m e Bf=>sT (cs':=[Ad,Af]) sizeOf35 m 0 Bf 0 k z (Qb1 (Qhv (Enc.ow_rd Ab)) (Qb1 (Qhv (Enc.ow_rd Ac)) Qs5)) λCn a k e m Ag=>pN 1 k z λa k=>nn (wr (sv k z (rL Qfg m 3 As 0 k z) λa k=>oE h λCz Bw h=>?_));refine sC k call9 z (Q37 fu _ (Qah (m.q Al 4 z) (m.q Aj 5 z) (m.q Ak 6 z)) Bw) λCg Ct hR=>?_;obtain ⟨Dc,Bp,rfl,e,Aw,Ca⟩:=hR;refine ⟨_,z,λa k=>?_⟩;have m:=m.nw e Ca Aw;obtain ⟨Bh,Df,Bv,Ch,rfl,rfl,Bq,Cc,_⟩:=Aw;have m:=m.split2;refine pN 3 k z λa k=>Qar (cs:=[.slice none 0 0,.slice none 0 0]) m k zeroValue35 z z z z z λDo Cm a k m e Ce=>sT (cs':=[Bh,Bv]) sizeOf35 m 0 Ce 0 k z (Qb1 (Qhv (Enc.ow_rd Bq)) (Qb1 (Qhv (Enc.ow_rd Cc)) Qs5)) λCv a k e m Cu=>pN 1 k z λa k=>nn (wp_seq (wr (pN 2 k z λa k=>sv k z (Jdx k underlying4 z z z) λa k=>?_)));have k:=k.keep [3,4,5,24] z;refine nn (cI h k z (λBt h=>?_) λBt h=>?_)
 · refine wr (pN 1 k z λa k=>nn (wp_ret (Qad ?_)));refine fS h k m z z
 refine wp_skip (Qaa ?_);refine wp_seq (wr (pN 2 k z λa k=>nn (cI h k z (λBn h=>?_) λBn h=>?_)))
 · refine wr (fl Qm3 Qzo m 3 Ag k z z λa k=>sv k z (Qa2 (α:=Carton) (Enc.ow_rd Ab) k underlying32 z z) λa k=>pN 2 k z λa k=>Qam ((Ae.1.fV.length:Int)==0) (λAr=>?_) (λAr=>?_))
   · have h:=Qax Ar h;refine rB k 31 z Ar λk=>sv k z (rL Qfg m 6 As 0 k z) λa k=>sv k z (rL Q0f m 3 Ag 0 k z) λa k=>oE h λDi Bu h=>cC k m call10 z (Qyr fu _ _ (Qah (m.q Al 7 z) (m.q Aj 8 z) (m.q Ak 9 z)) (Qs2 (m.q Ab 4 z) (m.q Ac 5 z)) Bu) λCj e a k m=>pN 3 k z λa k=>nn (wp_ret (Qad ?_));refine fS h k m z z
   have h:=Qav Ar h;refine rB k 31 z Ar λk=>pN 6 k z λa k=>nn (wp_ret (Qad ?_));refine fS h k m z z
 refine wp_skip (Qaa ?_);refine wp_seq (Qit [] Qip m z λBj hMd=>?_);have m:=hMd;have s:=Ext.refl ([]:List Nat) Bj;refine dT k 0 z z s (λw s=>Qde Qfg (As.at ((hMd.step s).a 6 z) 0 10 z z z) z k z z) λa k=>dT k 1 z z s (λw s=>Qde Q0f (Ag.at ((hMd.step s).a 3 z) 0 2 z z z) z k z z) λa k=>dO 2 z (oE h λBe Bz h=>?_);refine cC k m call11 z (Q0h fu _ _ (Qah (m.q Al 7 z) (m.q Aj 8 z) (m.q Ak 9 z)) (Qs2 (m.q Ab 4 z) (m.q Ac 5 z)) Bz) λDa e a k m=>?_;refine ns s e λs=>?_;refine dM [3] 1 z k z s λa k=>Qam (Be) (λAq=>?_) (λAq=>?_)
 · have h:=Qax Aq h;refine rB k 40 z Aq λk=>dT k 4 z z s (λw s=>Qde Q0f (Ag.at ((hMd.step s).a 3 z) 0 2 z z z) z k z z) λa k=>dO 5 z (oE h λBo By h=>cC k m call12 z (Quy fu _ (Qs2 (m.q Ab 4 z) (m.q Ac 5 z)) By) λCl e a k m=>?_);refine ns s e λs=>?_;refine dM [6,7] 2 z k z s λa k=>Qam (Bo) (λAo=>?_) (λAo=>?_)
   · have h:=Qax Ao h;refine rB k 44 z Ao λk=>dT k 8 z z s (λw s=>Qde Qfg (As.at ((hMd.step s).a 6 z) 0 10 z z z) z k z z) λa k=>dT k 9 z z s (λw s=>Qde Q0f (Ag.at ((hMd.step s).a 3 z) 0 2 z z z) z k z z) λa k=>dO 10 z (oE h λCb Bx h=>?_);refine sC k call13 z (Q6b fu _ _ (Qah (m.q Al 7 z) (m.q Aj 8 z) (m.q Ak 9 z)) (Qs2 (m.q Ab 4 z) (m.q Ac 5 z)) Bx) λDq Co hR=>?_;obtain ⟨Db,Az,rfl,e,Au,Ay⟩:=hR;refine ⟨_,z,λa k=>?_⟩;have m:=m.nw e Ay Au;have Cr:=λ(y:Nat) (hy:y∈Az)=>Nat.le_trans s.size (Ay y hy);refine ns s e λs=>?_;refine dT k 11 z z s (λw s=>Qa2 (α:=Int) (Enc.ow_rd Au) k underlying41 z z) λa k=>dM [12,13,14] 3 z k z s λa k=>Qam ((Cb.length:Int)==0) (λAp=>?_) (λAp=>?_)
     · have h:=Qax Ap h;refine rB k 51 z Ap λk=>dT k 15 z z s (λw s=>Qde Q0f (Ag.at ((hMd.step s).a 3 z) 0 2 z z z) z k z z) λa k=>dT k 17 z z s (λw s=>Qde Q0f (Ag.at ((hMd.step s).a 3 z) 0 2 z z z) z k z z) λa k=>dO 16 z (oE h λDj Bd h=>cC k m call14 z (Q0r fu (m.tb hT) _ (Qs2 (m.q Ab 5 z) (m.q Ac 6 z)) Bd) λDr e a k m=>?_);refine ns s e λs=>?_;refine dO 18 z (oE h λDl Cd h=>cC k m call15 z (Q0z fu _ (Qs2 (m.q Ab 5 z) (m.q Ac 6 z)) Cd) λCk e a k m=>?_);refine ns s e λs=>?_;refine dM [19,20,21] 3 z k z s λa k=>dD ?_;have k:=k.keep [2] z;refine (Qaa ?_);refine wp_ret (fS h k m z z)
     have h:=Qav Ap h;refine rB k 51 z Ap λk=>dM [15,16,17,18,19,20,21] 7 z k z s λa k=>dD ?_;have k:=k.keep [2] z;refine (Qaa ?_);refine wp_ret (fS h k m z z)
   have h:=Qav Ao h;refine rB k 44 z Ao λk=>dM [8,9,10,11,12,13,14,15,16,17,18,19,20,21] 14 z k z s λa k=>dD ?_;have k:=k.keep [2] z;refine (Qaa ?_);refine wp_ret (fS h k m z z)
 have h:=Qav Aq h;refine rB k 40 z Aq λk=>dM [4,5,6,7,8,9,10,11,12,13,14,15,16,17,18,19,20,21] 18 z k z s λa k=>dD ?_;have k:=k.keep [2] z;refine (Qaa ?_);refine wp_ret (fS h k m z z)
end Go.Proofs.YtpcmapfabndggaaGreatDoor
