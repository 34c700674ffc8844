/- FnPlanned: the walks.. -/
import Derived.Test.YtpcmapfabndggaaGreatDoorPlannedBWi5
import Derived.Test.YtpcmapfabndggaaGreatDoorPlannedBWs5
import Derived.Test.YtpcmapfabndggaaGreatDoorPlannedBWl1
import Derived.Test.YtpcmapfabndggaaGreatDoorPlannedD
set_option maxRecDepth 20000
set_option linter.unusedSimpArgs false
set_option linter.unusedVariables false
set_option linter.unnecessarySimpa false
namespace Go.Proofs.YtpcmapfabndggaaGreatDoor
open Go Go.RowKit
open Enc (rd ow)
open Arg (argv)
open Ret (retv)
open Go.Proofs.Tryz
theorem Qy0 (fu:Nat) {w0:World} (hT:Tb Tryz.prog w0) (Az:List U8) {v2:Value} {F3:List Nat} (At:rd w0 F3 [v2] Az) {r:Bool}
    (h:Qqp fu Az=some r) :
    Calls Tryz.prog 3 #[v2] w0 λe w=>e=.returned (.bool (r))∧Ext [] w0 w:=by
 refine en (vs:=[_]) func3 z ntmps3 z λa k m=>?_;unfold Qqp at h;refine wr (pN 1 k z λa k=>nn (wp_seq (wr (pN 1 k z λa k=>oE h λx5 Bb h=>cC k m call6 z (Q8l fu _ (m.r At) Bb) λw9 e a k m=>nn (cI h k z (λBl h=>?_) λBl h=>?_)))))
 · refine wr (pN 1 k z λa k=>nn (wp_ret (Qad ?_)));refine fS h k m z z
 refine wp_skip (Qaa ?_);refine wr (pN 1 k z λa k=>oE h λAa Bo h=>sC k call7 z (Qx9 fu _ (m.r At) Bo) λCn Cy hR=>?_);obtain ⟨Da,Bj,rfl,e,Av,Bn⟩:=hR;refine ⟨_,z,λa k=>?_⟩;have m:=m.nw e Bn Av;obtain ⟨Aj,De,Ah,Cw,Ak,Dq,rfl,rfl,Al,Ai,Am,_⟩:=Av;have m:=m.split2;have m:=m.split2at1;refine Qar (cs:=[I 0,I 0,I 0,I 0,I 0,I 0,.slice none 0 0,.slice none 0 0,I 0,.slice none 0 0]) m k zeroValue30 z z z z z λDf Dm a k m e Bp=>sT (cs':=(cR Aa Aj Ah Ak)) sizeOf30 m 0 Bp 0 k z (Qbz z (Qbz z (Qbz z (Qbz z (Qbz z (Qbz z (Qbz (Qhs (Enc.ow_rd Al)) (Qbz (Qhs (Enc.ow_rd Ai)) (Qbz z (Qbz (Qhs (Enc.ow_rd Am)) Qs6)))))))))) λDj a k e m Ao=>nn (wr (sv k z (rL Qfl m 0 Ao 0 k z) λa k=>oE h λAg Bu h=>?_));refine sC k call8 z (Q3o fu _ (Qah (m.q Al 1 z) (m.q Ai 2 z) (m.q Am 3 z)) Bu) λCs Ct hR=>?_;obtain ⟨Ck,Bv,rfl,e,Ax,Bg⟩:=hR;refine ⟨_,z,λa k=>?_⟩;have m:=m.nw e Bg Ax;obtain ⟨Ac,Dc,Ad,Db,rfl,rfl,Ab,Ae,_⟩:=Ax;have m:=m.split2
 refine pN 3 k z λa k=>Qar (cs:=[.slice none 0 0,.slice none 0 0]) m k zeroValue35 z z z z z λCu Dn a k m e Bk=>sT (cs':=[Ac,Ad]) sizeOf35 m 0 Bk 0 k z (Qbz (Qhs (Enc.ow_rd Ab)) (Qbz (Qhs (Enc.ow_rd Ae)) Qs6)) λCg a k e m Af=>pN 1 k z λa k=>nn (wr (sv k z (rL Qfl m 3 Ao 0 k z) λa k=>oE h λCv Bz h=>?_));refine sC k call9 z (Q37 fu _ (Qah (m.q Al 4 z) (m.q Ai 5 z) (m.q Am 6 z)) Bz) λCp Cl hR=>?_;obtain ⟨Cm,Cc,rfl,e,Aw,Bd⟩:=hR;refine ⟨_,z,λa k=>?_⟩;have m:=m.nw e Bd Aw;obtain ⟨Be,Ch,Bw,Cf,rfl,rfl,Bs,Bq,_⟩:=Aw;have m:=m.split2;refine pN 3 k z λa k=>Qar (cs:=[.slice none 0 0,.slice none 0 0]) m k zeroValue35 z z z z z λDd Cz a k m e By=>sT (cs':=[Be,Bw]) sizeOf35 m 0 By 0 k z (Qbz (Qhs (Enc.ow_rd Bs)) (Qbz (Qhs (Enc.ow_rd Bq)) Qs6)) λCo a k e m Cx=>pN 1 k z λa k=>nn (wp_seq (wr (pN 2 k z λa k=>sv k z (Jcw k underlying4 z z z) λa k=>?_)));have k:=k.keep [3,4,5,24] z;refine nn (cI h k z (λBh h=>?_) λBh h=>?_)
 · refine wr (pN 1 k z λa k=>nn (wp_ret (Qad ?_)));refine fS h k m z z
 refine wp_skip (Qaa ?_);refine wp_seq (wr (pN 2 k z λa k=>nn (cI h k z (λCb h=>?_) λCb h=>?_)))
 · refine wr (fl Qmz Qy8 m 3 Af k z z λa k=>sv k z (Qa2 (α:=Carton) (Enc.ow_rd Ab) k underlying32 z z) λa k=>pN 2 k z λa k=>Qam ((Ag.1.fV.length:Int)==0) (λAp=>?_) (λAp=>?_))
   · have h:=Qax Ap h;refine rB k 31 z Ap λk=>sv k z (rL Qfl m 6 Ao 0 k z) λa k=>sv k z (rL Q08 m 3 Af 0 k z) λa k=>oE h λDh Ce h=>cC k m call10 z (Qyw fu _ _ (Qah (m.q Al 7 z) (m.q Ai 8 z) (m.q Am 9 z)) (Qs2 (m.q Ab 4 z) (m.q Ae 5 z)) Ce) λCr e a k m=>pN 3 k z λa k=>nn (wp_ret (Qad ?_));refine fS h k m z z
   have h:=Qay Ap h;refine rB k 31 z Ap λk=>pN 6 k z λa k=>nn (wp_ret (Qad ?_));refine fS h k m z z
 refine wp_skip (Qaa ?_);refine wp_seq (Qiw [] Qim m z λCd hMd=>?_);have m:=hMd;have s:=Ext.refl ([]:List Nat) Cd;refine dT k 0 z z s (λw s=>Qde Qfl (Ao.at ((hMd.step s).a 6 z) 0 10 z z z) z k z z) λa k=>dT k 1 z z s (λw s=>Qde Q08 (Af.at ((hMd.step s).a 3 z) 0 2 z z z) z k z z) λa k=>dO 2 z (oE h λBt Bx h=>?_);refine cC k m call11 z (Q0b fu _ _ (Qah (m.q Al 7 z) (m.q Ai 8 z) (m.q Am 9 z)) (Qs2 (m.q Ab 4 z) (m.q Ae 5 z)) Bx) λDr e a k m=>?_;refine ns s e λs=>?_;refine dM [3] 1 z k z s λa k=>Qam (Bt) (λAr=>?_) (λAr=>?_)
 · have h:=Qax Ar h;refine rB k 40 z Ar λk=>dT k 4 z z s (λw s=>Qde Q08 (Af.at ((hMd.step s).a 3 z) 0 2 z z z) z k z z) λa k=>dO 5 z (oE h λBm Bf h=>cC k m call12 z (Qut fu _ (Qs2 (m.q Ab 4 z) (m.q Ae 5 z)) Bf) λDg e a k m=>?_);refine ns s e λs=>?_;refine dM [6,7] 2 z k z s λa k=>Qam (Bm) (λAs=>?_) (λAs=>?_)
   · have h:=Qax As h;refine rB k 44 z As λk=>dT k 8 z z s (λw s=>Qde Qfl (Ao.at ((hMd.step s).a 6 z) 0 10 z z z) z k z z) λa k=>dT k 9 z z s (λw s=>Qde Q08 (Af.at ((hMd.step s).a 3 z) 0 2 z z z) z k z z) λa k=>dO 10 z (oE h λBr Bc h=>?_);refine sC k call13 z (Q6l fu _ _ (Qah (m.q Al 7 z) (m.q Ai 8 z) (m.q Am 9 z)) (Qs2 (m.q Ab 4 z) (m.q Ae 5 z)) Bc) λDp Cq hR=>?_;obtain ⟨Dk,Ay,rfl,e,Au,Ba⟩:=hR;refine ⟨_,z,λa k=>?_⟩;have m:=m.nw e Ba Au;have Dl:=λ(y:Nat) (hy:y∈Ay)=>Nat.le_trans s.size (Ba y hy);refine ns s e λs=>?_;refine dT k 11 z z s (λw s=>Qa2 (α:=Int) (Enc.ow_rd Au) k underlying41 z z) λa k=>dM [12,13,14] 3 z k z s λa k=>Qam ((Br.length:Int)==0) (λAq=>?_) (λAq=>?_)
     · have h:=Qax Aq h;refine rB k 51 z Aq λk=>dT k 15 z z s (λw s=>Qde Q08 (Af.at ((hMd.step s).a 3 z) 0 2 z z z) z k z z) λa k=>dT k 17 z z s (λw s=>Qde Q08 (Af.at ((hMd.step s).a 3 z) 0 2 z z z) z k z z) λa k=>dO 16 z (oE h λDi Ca h=>cC k m call14 z (Q0f fu (m.tb hT) _ (Qs2 (m.q Ab 5 z) (m.q Ae 6 z)) Ca) λDo e a k m=>?_);refine ns s e λs=>?_;refine dO 18 z (oE h λCi Bi h=>cC k m call15 z (Q0s fu _ (Qs2 (m.q Ab 5 z) (m.q Ae 6 z)) Bi) λCj e a k m=>?_);refine ns s e λs=>?_;refine dM [19,20,21] 3 z k z s λa k=>dD ?_;have k:=k.keep [2] z;refine (Qaa ?_);refine wp_ret (fS h k m z z)
     have h:=Qay Aq h;refine rB k 51 z Aq λk=>dM [15,16,17,18,19,20,21] 7 z k z s λa k=>dD ?_;have k:=k.keep [2] z;refine (Qaa ?_);refine wp_ret (fS h k m z z)
   have h:=Qay As h;refine rB k 44 z As λk=>dM [8,9,10,11,12,13,14,15,16,17,18,19,20,21] 14 z k z s λa k=>dD ?_;have k:=k.keep [2] z;refine (Qaa ?_);refine wp_ret (fS h k m z z)
 have h:=Qay Ar h;refine rB k 40 z Ar λk=>dM [4,5,6,7,8,9,10,11,12,13,14,15,16,17,18,19,20,21] 18 z k z s λa k=>dD ?_;have k:=k.keep [2] z;refine (Qaa ?_);refine wp_ret (fS h k m z z)
end Go.Proofs.YtpcmapfabndggaaGreatDoor
