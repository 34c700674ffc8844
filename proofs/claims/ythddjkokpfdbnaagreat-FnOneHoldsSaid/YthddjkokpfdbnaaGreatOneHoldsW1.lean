/- FnOneHolds: the walks of functions that it reaches (OneHoldsW,part 1). Printed by gen.py. -/
import Derived.Test.YthddjkokpfdbnaaGreatOneHoldsBWi3
import Derived.Test.YthddjkokpfdbnaaGreatOneHoldsBWs3
import Derived.Test.YthddjkokpfdbnaaGreatOneHoldsBWl1
import Derived.Test.YthddjkokpfdbnaaGreatOneHoldsD
set_option maxRecDepth 20000
set_option linter.unusedSimpArgs false
set_option linter.unusedVariables false
set_option linter.unnecessarySimpa false
namespace Go.Proofs.YthddjkokpfdbnaaGreat
open Go Go.RowKit
open Enc (rd ow)
open Arg (argv)
open Ret (retv)
open Go.Proofs.Tryz


theorem c_laws_FnOneHolds (fu:Nat) {w0:World} (Bj:List U8) {v2:Value} {F3:List Nat} (Be:rd w0 F3 [v2] Bj) {r:Bool}
    (h:d_laws_FnOneHolds fu Bj = some r) :
    Calls Tryz.prog 5 #[v2] w0 fun e w=>e = .returned (.bool (r)) ∧ Ext [] w0 w:=by
 refine enter (vs:=[_]) func5 z ntmps5 z fun a k=>?_;have m:=St.start w0;unfold d_laws_FnOneHolds at h;refine wr (pN 1 k z fun a k=>nn (wp_seq (wr (pN 1 k z fun a k=>oE h fun x5 Bo h=>cE k m call12 z z z (c_laws_big fu _ (m.r Be) Bo) fun w9 e a k m=>nn (cI h k z (fun Bz h=>?_) fun Bz h=>?_)))))
 · refine wr (pN 1 k z fun a k=>nn (wp_ret (rt_then ?_)));refine fS h k m z z
 refine wp_skip (nm_then ?_);refine wr (pN 1 k z fun a k=>oE h fun Aa By h=>s_call k call29 z z z z z (c_spec_DrawSlackGram fu _ (m.r Be) By) fun Cf Bf hR=>?_);obtain ⟨Ct,Bq,rfl,e,Bg,Bx⟩:=hR;refine ⟨_,z,fun a k=>?_⟩;have m:=m.nw e Bx Bg;obtain ⟨Ai,Cc,Ag,Bt,Aj,Bw,rfl,rfl,Af,Ah,Ae,_⟩:=Bg;have m:=m.split2;have m:=m.split2at1;refine pN 3 k z fun a k=>s_alloc (cs:=[I 0,I 0,I 0,I 0,I 0,I 0,.slice none 0 0,.slice none 0 0,I 0,.slice none 0 0]) m k zeroValue30 z z z z z fun Bi Cj a k m e Bs=>s_stb (cs':=[I Aa.1.fWay,I Aa.1.fPallet.fW,I Aa.1.fPallet.fD,I Aa.1.fPallet.fH,I Aa.1.fPallet.fGram,I Aa.1.fClasses,Ai,Ag,I Aa.1.fMaster,Aj]) sizeOf30 m 0 Bs 0 k z z z z z z z z z z (allc z (allc z (allc z (allc z (allc z (allc z (allc (rd_o (Enc.ow_rd Af)) (allc (rd_o (Enc.ow_rd Ah)) (allc z (allc (rd_o (Enc.ow_rd Ae)) alln)))))))))) fun Bk a k e m Ak=>pN 1 k z fun a k=>nn (wr (sv k z (r_ldB ta30 m 0 Ak 0 k z z z z z z) fun a k=>?_))
 refine pN 1 k z fun a k=>oE h fun Ab Bp h=>cE k m call30 z z z (c_impl_SlackGram fu _ _ (mkRequest (m.q Af 1 z) (m.q Ah 2 z) (m.q Ae 3 z)) Bp) fun Cp e a k m=>pN 1 k z fun a k=>nn (wr (sv k z (r_ldB ta30 m 0 Ak 0 k z z z z z z) fun a k=>pN 1 k z fun a k=>oE h fun Ad Bn h=>?_));refine cE k m call31 z z z (c_impl_SlackVolume fu _ _ (mkRequest (m.q Af 1 z) (m.q Ah 2 z) (m.q Ae 3 z)) Bn) fun Cn e a k m=>pN 1 k z fun a k=>nn (c_cut (fun a w=>K 82 [(3,pt Bi),(4,I Aa.2),(5,.bool (Ab)),(6,.bool (Ad))] a ∧ St [] w0 w [([Bi],Bk),(Cc,Bf),(Bt,Bf),(Bw,Bf)] ∧ d_laws_FnOneHolds_J2 fu Aa Ab Ad = some r) ?_ ?_)
 · rintro a Ck ⟨k,m,h⟩;unfold d_laws_FnOneHolds_J2 at h;refine wr (sv k z (r_ldB ta30 m 0 Ak 0 k z z z z z z) fun a k=>pN 1 k z fun a k=>oE h fun Ac Bl h=>cE k m call34 z z z (c_impl_CountIn fu _ _ (mkRequest (m.q Af 1 z) (m.q Ah 2 z) (m.q Ae 3 z)) Bl) fun Ch e a k m=>pN 1 k z fun a k=>nn (c_cut (fun a w=>K 82 [(5,.bool (Ab)),(6,.bool (Ad)),(7,I Ac)] a ∧ St [] w0 w [] ∧ d_laws_FnOneHolds_J1 fu Ab Ad Ac = some r) ?_ ?_))
   · rintro a Cl ⟨k,m,h⟩;unfold d_laws_FnOneHolds_J1 at h;refine wr (pN 3 k z fun a k=>bsplit (decide (Ac ≥ 1)) (fun As=>?_) (fun As=>?_))
     · have h:=bif_t As h;refine rB k 57 z As fun k=>pN 4 k z fun a k=>bsplit (Ab) (fun Aw=>?_) (fun Aw=>?_)
       · have h:=bif_t Aw h;refine rB k 61 z Aw fun k=>pN 3 k z fun a k=>bsplit (Ad) (fun At=>?_) (fun At=>?_)
         · have h:=bif_t At h;refine rB k 64 z At fun k=>pN 3 k z fun a k=>sv k z (r_eqb k underlying4 z z z) fun a k=>pN 2 k z fun a k=>bsplit ((Ac == 1) == true) (fun Ar=>?_) (fun Ar=>?_)
           · have h:=bif_t Ar h;refine rB k 70 z Ar fun k=>pN 3 k z fun a k=>bsplit (!Ab) (fun Ax=>?_) (fun Ax=>?_)
             · have h:=bif_t Ax h;refine rB k 73 z Ax fun k=>pN 9 k z fun a k=>?_;have k:=k.keep [2] z;refine nn (wp_ret (fS h k m z z))
             have h:=bif_f Ax h;refine rB k 73 z Ax fun k=>pN 4 k z fun a k=>bsplit (!Ad) (fun Au=>?_) (fun Au=>?_)
             · have h:=bif_t Au h;refine rB k 77 z Au fun k=>pN 5 k z fun a k=>?_;have k:=k.keep [2] z;refine nn (wp_ret (fS h k m z z))
             have h:=bif_f Au h;refine rB k 77 z Au fun k=>pN 5 k z fun a k=>?_;have k:=k.keep [2] z;refine nn (wp_ret (fS h k m z z))
           have h:=bif_f Ar h;refine rB k 70 z Ar fun k=>pN 12 k z fun a k=>?_;have k:=k.keep [2] z;refine nn (wp_ret (fS h k m z z))
         have h:=bif_f At h;refine rB k 64 z At fun k=>pN 3 k z fun a k=>sv k z (r_eqb k underlying4 z z z) fun a k=>pN 2 k z fun a k=>bsplit ((Ac == 1) == (Ac == 1)) (fun Ao=>?_) (fun Ao=>?_)
         · have h:=bif_t Ao h;refine rB k 70 z Ao fun k=>pN 3 k z fun a k=>bsplit (!Ab) (fun Bd=>?_) (fun Bd=>?_)
           · have h:=bif_t Bd h;refine rB k 73 z Bd fun k=>pN 9 k z fun a k=>?_;have k:=k.keep [2] z;refine nn (wp_ret (fS h k m z z))
           have h:=bif_f Bd h;refine rB k 73 z Bd fun k=>pN 4 k z fun a k=>bsplit (!Ad) (fun Az=>?_) (fun Az=>?_)
           · have h:=bif_t Az h;refine rB k 77 z Az fun k=>pN 5 k z fun a k=>?_;have k:=k.keep [2] z;refine nn (wp_ret (fS h k m z z))
           have h:=bif_f Az h;refine rB k 77 z Az fun k=>pN 5 k z fun a k=>?_;have k:=k.keep [2] z;refine nn (wp_ret (fS h k m z z))
         have h:=bif_f Ao h;refine rB k 70 z Ao fun k=>pN 12 k z fun a k=>?_;have k:=k.keep [2] z;refine nn (wp_ret (fS h k m z z))
       have h:=bif_f Aw h;refine rB k 61 z Aw fun k=>pN 6 k z fun a k=>sv k z (r_eqb k underlying4 z z z) fun a k=>pN 2 k z fun a k=>bsplit ((Ac == 1) == (Ac == 1)) (fun Ap=>?_) (fun Ap=>?_)
       · have h:=bif_t Ap h;refine rB k 70 z Ap fun k=>pN 3 k z fun a k=>bsplit (!Ab) (fun Av=>?_) (fun Av=>?_)
         · have h:=bif_t Av h;refine rB k 73 z Av fun k=>pN 9 k z fun a k=>?_;have k:=k.keep [2] z;refine nn (wp_ret (fS h k m z z))
         have h:=bif_f Av h;refine rB k 73 z Av fun k=>pN 4 k z fun a k=>bsplit (!Ad) (fun Al=>?_) (fun Al=>?_)
         · have h:=bif_t Al h;refine rB k 77 z Al fun k=>pN 5 k z fun a k=>?_;have k:=k.keep [2] z;refine nn (wp_ret (fS h k m z z))
         have h:=bif_f Al h;refine rB k 77 z Al fun k=>pN 5 k z fun a k=>?_;have k:=k.keep [2] z;refine nn (wp_ret (fS h k m z z))
       have h:=bif_f Ap h;refine rB k 70 z Ap fun k=>pN 12 k z fun a k=>?_;have k:=k.keep [2] z;refine nn (wp_ret (fS h k m z z))
     have h:=bif_f As h;refine rB k 57 z As fun k=>pN 25 k z fun a k=>?_;have k:=k.keep [2] z;refine nn (wp_ret (fS h k m z z))
   refine wr (pN 3 k z fun a k=>bsplit (decide (Aa.2 < 0)) (fun Aq=>?_) (fun Aq=>?_))
   · have h:=bif_t Aq h;refine rB k 38 z Aq fun k=>pN 6 k z fun a k=>nn (wp_cond_true (k.ev z) (wr (pN 3 k z fun a k=>bsplit (Ac == 0) (fun Bb=>?_) (fun Bb=>?_))))
     · have h:=bif_t Bb h;refine rB k 47 z Bb fun k=>pN 4 k z fun a k=>bsplit (!Ab) (fun Ba=>?_) (fun Ba=>?_)
       · have h:=bif_t Ba h;refine rB k 51 z Ba fun k=>pN 4 k z fun a k=>nn (wp_ret (rt_then ?_));refine fS h k m z z
       have h:=bif_f Ba h;refine rB k 51 z Ba fun k=>pN 4 k z fun a k=>nn (wp_ret (rt_then ?_));refine fS h k m z z
     have h:=bif_f Bb h;refine rB k 47 z Bb fun k=>pN 8 k z fun a k=>nn (wp_ret (rt_then ?_));refine fS h k m z z
   have h:=bif_f Aq h;refine rB k 38 z Aq fun k=>pN 1 k z fun a k=>sv k z (r_ldB ta30 m 0 Ak 0 k z z z z z z) fun a k=>oE h fun Co Cb h=>s_call k call35 z z z z z (c_impl_GroupsOf fu _ (mkRequest (m.q Af 1 z) (m.q Ah 2 z) (m.q Ae 3 z)) Cb) fun Cs Cr hR=>?_;obtain ⟨Cm,Bm,rfl,e,Bh,Cd⟩:=hR;refine ⟨_,z,fun a k=>?_⟩;have m:=m.nw e Cd Bh;refine sv k z (r_len (α:=List Int) (Enc.ow_rd Bh) k underlying31 z z) fun a k=>pN 2 k z fun a k=>nn (cI h k z (fun Ce h=>?_) fun Ce h=>?_)
   · refine wr (pN 3 k z fun a k=>bsplit (Ac == 0) (fun Am=>?_) (fun Am=>?_))
     · have h:=bif_t Am h;refine rB k 47 z Am fun k=>pN 4 k z fun a k=>bsplit (!Ab) (fun Bc=>?_) (fun Bc=>?_)
       · have h:=bif_t Bc h;refine rB k 51 z Bc fun k=>pN 4 k z fun a k=>nn (wp_ret (rt_then ?_));refine fS h k m z z
       have h:=bif_f Bc h;refine rB k 51 z Bc fun k=>pN 4 k z fun a k=>nn (wp_ret (rt_then ?_));refine fS h k m z z
     have h:=bif_f Am h;refine rB k 47 z Am fun k=>pN 8 k z fun a k=>nn (wp_ret (rt_then ?_));refine fS h k m z z
   refine wp_skip (nm_then ?_);exact ⟨k.keep [5,6,7] z,m.sel [] z (by decide),h⟩
 refine wr (pN 1 k z fun a k=>sv k z (r_ldB ta30 m 0 Ak 0 k z z z z z z) fun a k=>pN 1 k z fun a k=>oE h fun Ca Br h=>cE k m call32 z z z (c_spec_SlackGram fu _ _ (mkRequest (m.q Af 1 z) (m.q Ah 2 z) (m.q Ae 3 z)) Br) fun Cq e a k m=>sv k z (r_neb k underlying4 z z z) fun a k=>pN 1 k z fun a k=>bsplit (!(Ab == Ca)) (fun Ay=>?_) (fun Ay=>?_))
 · have h:=bif_t Ay h;refine rB k 26 z Ay fun k=>pN 6 k z fun a k=>?_;have k:=k.keep [3,4,5,6,32] z;refine nn (wp_cond_true (k.ev z) (wr (pN 1 k z fun a k=>nn (wp_ret (rt_then ?_)))));refine fS h k m z z
 have h:=bif_f Ay h;refine rB k 26 z Ay fun k=>pN 1 k z fun a k=>sv k z (r_ldB ta30 m 0 Ak 0 k z z z z z z) fun a k=>pN 1 k z fun a k=>oE h fun Ci Bu h=>cE k m call33 z z z (c_spec_SlackVolume fu _ _ (mkRequest (m.q Af 1 z) (m.q Ah 2 z) (m.q Ae 3 z)) Bu) fun Cg e a k m=>sv k z (r_neb k underlying4 z z z) fun a k=>pN 1 k z fun a k=>?_;have k:=k.keep [3,4,5,6,32] z;refine nn (cI h k z (fun Bv h=>?_) fun Bv h=>?_)
 · refine wr (pN 1 k z fun a k=>nn (wp_ret (rt_then ?_)));refine fS h k m z z
 refine wp_skip (nm_then ?_);exact ⟨k.keep [3,4,5,6] z,m.sel [0,1,2,3] z (by decide),h⟩

end Go.Proofs.YthddjkokpfdbnaaGreat
