/- FnPromise: the walks of functions that it reaches (PromiseW,part 1). Printed by gen.py. -/
import Derived.Test.YthddjkokpfdbnaaGreatPromiseBWi3
import Derived.Test.YthddjkokpfdbnaaGreatPromiseBWs5
import Derived.Test.YthddjkokpfdbnaaGreatPromiseBWl1
import Derived.Test.YthddjkokpfdbnaaGreatPromiseD
set_option maxRecDepth 20000
set_option linter.unusedSimpArgs false
set_option linter.unusedVariables false
set_option linter.unnecessarySimpa false
namespace Go.Proofs.YthddjkokpfdbnaaGreat
open Go Go.RowKit
open Enc (rd ow)
open Arg (argv)
open Ret (retv)
open Go.Proofs.Tryz


theorem c_laws_FnPromise (fu:Nat) {w0:World} (Bz:List U8) {v2:Value} {F3:List Nat} (Bl:rd w0 F3 [v2] Bz) {r:Bool}
    (h:d_laws_FnPromise fu Bz = some r) :
    Calls Tryz.prog 11 #[v2] w0 fun e w=>e = .returned (.bool (r)) ∧ Ext [] w0 w:=by
 refine enter (vs:=[_]) func11 z ntmps11 z fun a k=>?_;have m:=St.start w0;unfold d_laws_FnPromise at h;refine wr (pN 1 k z fun a k=>nn (wp_seq (wr (pN 1 k z fun a k=>oE h fun x5 Ce h=>cE k m call12 z z z (c_laws_big fu _ (m.r Bl) Ce) fun w9 e a k m=>nn (cI h k z (fun Cl h=>?_) fun Cl h=>?_)))))
 · refine wr (pN 1 k z fun a k=>nn (wp_ret (rt_then ?_)));refine fS h k m z z
 refine wp_skip (nm_then ?_);refine wr (pN 1 k z fun a k=>oE h fun Aa Cu h=>s_call k call55 z z z z z (c_spec_DrawIsRival fu _ (m.r Bl) Cu) fun Dy Ab hR=>?_);obtain ⟨En,Cy,Bm,Av,rfl,e,Cr,By,Cw,Ao,Ct⟩:=hR;refine ⟨_,z,fun a k=>?_⟩;have m:=m.new e (Cy ++ Av) (fun b hb=>(List.mem_append.1 hb).elim (fun hb=>⟨Cw b hb,Enc.rd_lt (Enc.ow_rd By) b hb⟩) (fun hb=>⟨Ct b hb,Enc.rd_lt (Enc.ow_rd Ao) b hb⟩)) Cr;have m:=m.split2;have m:=m.toFront 1 z;have m:=m.toFront 1 z;obtain ⟨Ad,Br,Ai,Bt,Ag,Bq,rfl,rfl,Ah,Ae,Ac,_⟩:=By;have m:=m.split2;have m:=m.split2at1
 refine pN 3 k z fun a k=>s_alloc (cs:=[I 0,I 0,I 0,I 0,I 0,I 0,.slice none 0 0,.slice none 0 0,I 0,.slice none 0 0]) m k zeroValue30 z z z z z fun Ap Ei a k m e Cc=>s_stb (cs':=[I Aa.1.fWay,I Aa.1.fPallet.fW,I Aa.1.fPallet.fD,I Aa.1.fPallet.fH,I Aa.1.fPallet.fGram,I Aa.1.fClasses,Ad,Ai,I Aa.1.fMaster,Ag]) sizeOf30 m 0 Cc 0 k z z z z z z z z z z (allc z (allc z (allc z (allc z (allc z (allc z (allc (rd_o (Enc.ow_rd Ah)) (allc (rd_o (Enc.ow_rd Ae)) (allc z (allc (rd_o (Enc.ow_rd Ac)) alln)))))))))) fun Bp a k e m Aj=>pN 1 k z fun a k=>nn (wr (sv k z (r_ldB ta30 m 0 Aj 0 k z z z z z z) fun a k=>?_));refine pN 1 k z fun a k=>oE h fun Al Db h=>cE k m call20 z z z (c_impl_IsRival fu _ _ (mkRequest (m.q Ah 1 z) (m.q Ae 2 z) (m.q Ac 3 z)) (m.q Ao 4 z) Db) fun Ed e a k m=>pN 1 k z fun a k=>nn (wp_seq (wr (pN 1 k z fun a k=>sv k z (r_ldB ta30 m 0 Aj 0 k z z z z z z) fun a k=>pN 1 k z fun a k=>oE h fun Eg Cm h=>?_)))
 refine cE k m call18 z z z (c_spec_IsRival fu _ _ (mkRequest (m.q Ah 1 z) (m.q Ae 2 z) (m.q Ac 3 z)) (m.q Ao 4 z) Cm) fun Dz e a k m=>sv k z (r_neb k underlying4 z z z) fun a k=>nn (cI h k z (fun Da h=>?_) fun Da h=>?_)
 · refine wr (pN 1 k z fun a k=>nn (wp_ret (rt_then ?_)));refine fS h k m z z
 refine wp_skip (nm_then ?_);refine wr (sv k z (r_ldB ta30 m 0 Aj 0 k z z z z z z) fun a k=>oE h fun Am Cv h=>s_call k call35 z z z z z (c_impl_GroupsOf fu _ (mkRequest (m.q Ah 1 z) (m.q Ae 2 z) (m.q Ac 3 z)) Cv) fun Ef Bu hR=>?_);obtain ⟨Bo,Aw,rfl,e,Aq,Ci⟩:=hR;refine ⟨_,z,fun a k=>?_⟩;have m:=m.nw e Ci Aq;refine pN 1 k z fun a k=>nn (wr (pN 1 k z fun a k=>nn (wp_seq (wr (pN 1 k z fun a k=>?_)))));have k:=k.keep [3,4,5,6,7,8] z;refine nn (wp_block (c_loop (fun n a w=>∃ (Af:Int) (Ak:Int),K 137 [(3,pt Ap),(4,Bm),(5,.bool (Al)),(6,Bo),(7,I Af),(8,I Ak)] a ∧ St [] w0 w [([Ap],Bp),(Br,Ab),(Bt,Ab),(Bq,Ab),(Av,Ab),(Aw,Bu)] ∧ d_laws_FnPromise_L1 fu Aa Al Am n Af Ak = some r) ?_ ?_ fu _ _ ?_))
 · rintro a w ⟨_,_,_,_,h⟩;exact nS h
 · rintro Bv a Dn ⟨Af,Ak,k,m,h⟩;rw [d_laws_FnPromise_L1.eq_2] at h;unfold d_laws_FnPromise_L1_B at h;refine wp_seq (wr (pN 2 k z fun a k=>sv k z (r_len (α:=List Int) (Enc.ow_rd Aq) k underlying31 z z) fun a k=>pN 1 k z fun a k=>nn (cI h k z (fun Cn h=>?_) fun Cn h=>?_)))
   · refine wp_skip (nm_then ?_);refine c_cut (fun a w=>∃ (Bn:Int),K 137 [(3,pt Ap),(4,Bm),(5,.bool (Al)),(6,Bo),(7,I Bn),(8,I Ak)] a ∧ St [] w0 w [([Ap],Bp),(Br,Ab),(Bt,Ab),(Bq,Ab),(Av,Ab),(Aw,Bu)] ∧ d_laws_FnPromise_J1 fu (d_laws_FnPromise_L1 fu Aa Al Am Bv) Ak Bn = some r) ?_ ?_
     · rintro a Dw ⟨Bn,k,m,h⟩;unfold d_laws_FnPromise_J1 at h;refine wp_region_lit (pN 3 k z fun a k=>nn ?_);exact ⟨Bn,w64 (Ak + 1),k.keep [3,4,5,6,7,8] z,m.sel [0,1,2,3,4,5] z (by decide),h⟩
     refine wp_block (wr (sv k z (r_ldB ta30 m 0 Aj 0 k z z z z z z) fun a k=>pN 1 k z fun a k=>oE h fun Ar Cf h=>cE k m call34 z z z (c_impl_CountIn fu _ _ (mkRequest (m.q Ah 1 z) (m.q Ae 2 z) (m.q Ac 3 z)) Cf) fun Dp e a k m=>pN 1 k z fun a k=>nn (wr (sv k z (r_ldB ta30 m 0 Aj 0 k z z z z z z) fun a k=>pN 2 k z fun a k=>oE h fun Bs Cb h=>?_))));refine cE k m call56 z z z (c_impl_Touching fu _ _ _ (mkRequest (m.q Ah 1 z) (m.q Ae 2 z) (m.q Ac 3 z)) (m.q Ao 4 z) Cb) fun Eb e a k m=>pN 1 k z fun a k=>nn ?_;refine c_cut (fun a w=>K 137 [(3,pt Ap),(4,Bm),(5,.bool (Al)),(6,Bo),(7,I Af),(8,I Ak),(9,I Ar),(10,I Bs)] a ∧ St [] w0 w [([Ap],Bp),(Br,Ab),(Bt,Ab),(Bq,Ab),(Av,Ab),(Aw,Bu)] ∧ d_laws_FnPromise_J3 fu (d_laws_FnPromise_L1 fu Aa Al Am Bv) Aa Al Af Ak Ar Bs = some r) ?_ ?_
     · rintro a Dq ⟨k,m,h⟩;unfold d_laws_FnPromise_J3 at h;refine c_cut (fun a w=>K 137 [(3,pt Ap),(4,Bm),(5,.bool (Al)),(6,Bo),(7,I Af),(8,I Ak),(9,I Ar)] a ∧ St [] w0 w [([Ap],Bp),(Br,Ab),(Bt,Ab),(Bq,Ab),(Av,Ab),(Aw,Bu)] ∧ d_laws_FnPromise_J2 fu (d_laws_FnPromise_L1 fu Aa Al Am Bv) Af Ak Ar = some r) ?_ ?_
       · rintro a Ee ⟨k,m,h⟩;unfold d_laws_FnPromise_J2 at h;refine wp_region_lit (pN 4 k z fun a k=>wpList_nil (nm_block (nm_then ?_)));exact ⟨w64 (Af + Ar),k.keep [3,4,5,6,7,8] z,m.sel [0,1,2,3,4,5] z (by decide),h⟩
       refine wr (pN 2 k z fun a k=>bsplit (Al) (fun As=>?_) (fun As=>?_))
       · have h:=bif_t As h;refine rB k 56 z As fun k=>pN 1 k z fun a k=>sv k z (r_ldB ta30 m 0 Aj 0 k z z z z z z) fun a k=>pN 2 k z fun a k=>oE h fun Dj Co h=>cE k m call57 z z z (c_impl_Promise fu _ _ _ (mkRequest (m.q Ah 1 z) (m.q Ae 2 z) (m.q Ac 3 z)) Co) fun Ds e a k m=>pN 2 k z fun a k=>bsplit (decide (Ar > Dj)) (fun Au=>?_) (fun Au=>?_)
         · have h:=bif_t Au h;refine rB k 63 z Au fun k=>pN 15 k z fun a k=>nn (wp_cond_true (k.ev z) (wr (pN 1 k z fun a k=>?_)));have k:=k.keep [2] z;refine nn (wp_ret (rt_then (rt_block (rt_then (rt_then (rt_block (rt_then ?_)))))));refine fS h k m z z
         have h:=bif_f Au h;refine rB k 63 z Au fun k=>pN 4 k z fun a k=>bsplit (decide (Ar < 1)) (fun Bh=>?_) (fun Bh=>?_)
         · have h:=bif_t Bh h;refine rB k 67 z Bh fun k=>pN 11 k z fun a k=>nn (wp_cond_true (k.ev z) (wr (pN 1 k z fun a k=>?_)));have k:=k.keep [2] z;refine nn (wp_ret (rt_then (rt_block (rt_then (rt_then (rt_block (rt_then ?_)))))));refine fS h k m z z
         have h:=bif_f Bh h;refine rB k 67 z Bh fun k=>pN 4 k z fun a k=>bsplit (decide (Bs < 1)) (fun At=>?_) (fun At=>?_)
         · have h:=bif_t At h;refine rB k 71 z At fun k=>pN 7 k z fun a k=>nn (wp_cond_true (k.ev z) (wr (pN 1 k z fun a k=>?_)));have k:=k.keep [2] z;refine nn (wp_ret (rt_then (rt_block (rt_then (rt_then (rt_block (rt_then ?_)))))));refine fS h k m z z
         have h:=bif_f At h;refine rB k 71 z At fun k=>pN 7 k z fun a k=>nn (cI h k z (fun De h=>?_) fun De h=>?_)
         · refine wr (pN 1 k z fun a k=>?_);have k:=k.keep [2] z;refine nn (wp_ret (rt_then (rt_block (rt_then (rt_then (rt_block (rt_then ?_)))))));refine fS h k m z z
         refine wp_skip (nm_then ?_);exact ⟨k.keep [3,4,5,6,7,8,9] z,m.sel [0,1,2,3,4,5] z (by decide),h⟩
       have h:=bif_f As h;refine rB k 56 z As fun k=>pN 22 k z fun a k=>nn (wp_cond_false (k.ev z) (wp_skip (nm_then ?_)));exact ⟨k.keep [3,4,5,6,7,8,9] z,m.sel [0,1,2,3,4,5] z (by decide),h⟩
     refine wr (pN 1 k z fun a k=>sv k z (r_ldB ta30 m 0 Aj 0 k z z z z z z) fun a k=>pN 2 k z fun a k=>oE h fun Ck Dm h=>cE k m call61 z z z (c_spec_Touching fu _ _ _ (mkRequest (m.q Ah 1 z) (m.q Ae 2 z) (m.q Ac 3 z)) (m.q Ao 4 z) Dm) fun Ea e a k m=>pN 2 k z fun a k=>bsplit (Bs != Ck) (fun Bj=>?_) (fun Bj=>?_))
     · have h:=bif_t Bj h;refine rB k 48 z Bj fun k=>pN 6 k z fun a k=>?_;have k:=k.keep [3,4,5,6,7,8,9,10,54] z;refine nn (wp_cond_true (k.ev z) (wr (pN 1 k z fun a k=>nn (wp_ret (rt_then (rt_block (rt_then (rt_then (rt_block (rt_then ?_))))))))));refine fS h k m z z
     have h:=bif_f Bj h;refine rB k 48 z Bj fun k=>pN 1 k z fun a k=>sv k z (r_ldB ta30 m 0 Aj 0 k z z z z z z) fun a k=>pN 1 k z fun a k=>oE h fun Eo Cg h=>cE k m call62 z z z (c_spec_CountIn fu _ _ (mkRequest (m.q Ah 1 z) (m.q Ae 2 z) (m.q Ac 3 z)) Cg) fun Do e a k m=>pN 2 k z fun a k=>?_;have k:=k.keep [3,4,5,6,7,8,9,10,54] z;refine nn (cI h k z (fun Ch h=>?_) fun Ch h=>?_)
     · refine wr (pN 1 k z fun a k=>nn (wp_ret (rt_then (rt_block (rt_then (rt_then (rt_block (rt_then ?_))))))));refine fS h k m z z
     refine wp_skip (nm_then ?_);exact ⟨k.keep [3,4,5,6,7,8,9,10] z,m.sel [0,1,2,3,4,5] z (by decide),h⟩
   refine wp_exit (ex_then (ex_then (ex_same (nm_then ?_))));refine wp_seq (wr (pN 2 k z fun a k=>nn (cI h k z (fun Cd h=>?_) fun Cd h=>?_)))
   · refine wr (sv k z (r_ldB ta30 m 0 Aj 0 k z z z z z z) fun a k=>oE h fun Cx Dh h=>cE k m call25 z z z (c_spec_Class fu _ (mkRequest (m.q Ah 1 z) (m.q Ae 2 z) (m.q Ac 3 z)) Dh) fun Du e a k m=>pN 2 k z fun a k=>bsplit (Cx != 0) (fun Bg=>?_) (fun Bg=>?_))
     · have h:=bif_t Bg h;refine rB k 87 z Bg fun k=>pN 7 k z fun a k=>nn (wp_ret (rt_then ?_));refine fS h k m z z
     have h:=bif_f Bg h;refine rB k 87 z Bg fun k=>pN 1 k z fun a k=>sv k z (r_ldB ta30 m 0 Aj 0 k z z z z z z) fun a k=>oE h fun Dt Dc h=>s_call k call60 z z z z z (c_impl_CartonsOf fu _ (mkRequest (m.q Ah 1 z) (m.q Ae 2 z) (m.q Ac 3 z)) Dc) fun Eh Ec hR=>?_;obtain ⟨Em,Cz,rfl,e,Bx,Dg⟩:=hR;refine ⟨_,z,fun a k=>?_⟩;have m:=m.nw e Dg Bx;refine sv k z (r_len (α:=Carton) (Enc.ow_rd Bx) k underlying49 z z) fun a k=>pN 3 k z fun a k=>nn (wp_ret (rt_then ?_));refine fS h k m z z
   refine wp_skip (nm_then ?_);refine wr (pN 1 k z fun a k=>sv k z (r_len (α:=List Int) (Enc.ow_rd Ao) k underlying31 z z) fun a k=>pN 1 k z fun a k=>nn (wr (pN 1 k z fun a k=>sv k z (r_ldB ta30 m 0 Aj 0 k z z z z z z) fun a k=>oE h fun Dk Cs h=>s_call k call60 z z z z z (c_impl_CartonsOf fu _ (mkRequest (m.q Ah 1 z) (m.q Ae 2 z) (m.q Ac 3 z)) Cs) fun Ek Dv hR=>?_)));obtain ⟨Ej,Dl,rfl,e,Bw,Cq⟩:=hR;refine ⟨_,z,fun a k=>?_⟩;have m:=m.nw e Cq Bw;refine sv k z (r_len (α:=Carton) (Enc.ow_rd Bw) k underlying49 z z) fun a k=>pN 2 k z fun a k=>bsplit (Af == ((Dk.length:Int))) (fun Bd=>?_) (fun Bd=>?_)
   · have h:=bif_t Bd h;refine rB k 101 z Bd fun k=>pN 3 k z fun a k=>bsplit (((Aa.2.length:Int)) == 0) (fun Be=>?_) (fun Be=>?_)
     · have h:=bif_t Be h;refine rB k 104 z Be fun k=>pN 4 k z fun a k=>bsplit (Af == 0) (fun Bc=>?_) (fun Bc=>?_)
       · have h:=bif_t Bc h;refine rB k 108 z Bc fun k=>pN 11 k z fun a k=>sv k z (r_ldB ta30 m 1 Aj 0 k z z z z z z) fun a k=>pN 1 k z fun a k=>oE h fun Di Df h=>cE k m call28 z z z (c_impl_Mixes fu _ _ (mkRequest (m.q Ah 2 z) (m.q Ae 3 z) (m.q Ac 4 z)) (m.q Ao 5 z) Df) fun El e a k m=>pN 1 k z fun a k=>bsplit (Di) (fun Az=>?_) (fun Az=>?_)
         · have h:=bif_t Az h;refine rB k 123 z Az fun k=>pN 14 k z fun a k=>?_;have k:=k.keep [2] z;refine nn (wp_ret (fS h k m z z))
         have h:=bif_f Az h;refine rB k 123 z Az fun k=>pN 4 k z fun a k=>sv k z (r_len (α:=List Int) (Enc.ow_rd Aq) k underlying31 z z) fun a k=>pN 4 k z fun a k=>bsplit (decide (Af ≤ (w64 ((w64 (4 * ((Aa.2.length:Int)))) - ((Am.length:Int)))))) (fun Bk=>?_) (fun Bk=>?_)
         · have h:=bif_t Bk h;refine rB k 132 z Bk fun k=>pN 5 k z fun a k=>?_;have k:=k.keep [2] z;refine nn (wp_ret (fS h k m z z))
         have h:=bif_f Bk h;refine rB k 132 z Bk fun k=>pN 5 k z fun a k=>?_;have k:=k.keep [2] z;refine nn (wp_ret (fS h k m z z))
       have h:=bif_f Bc h;refine rB k 108 z Bc fun k=>pN 2 k z fun a k=>sv k z (r_len (α:=List Int) (Enc.ow_rd Aq) k underlying31 z z) fun a k=>pN 8 k z fun a k=>bsplit (decide (Af ≤ (w64 (((Am.length:Int)) * (w64 ((w64 (4 * ((Aa.2.length:Int)))) - 1)))))) (fun Ba=>?_) (fun Ba=>?_)
       · have h:=bif_t Ba h;refine rB k 119 z Ba fun k=>sv k z (r_ldB ta30 m 1 Aj 0 k z z z z z z) fun a k=>pN 1 k z fun a k=>oE h fun Ca Cj h=>cE k m call28 z z z (c_impl_Mixes fu _ _ (mkRequest (m.q Ah 2 z) (m.q Ae 3 z) (m.q Ac 4 z)) (m.q Ao 5 z) Cj) fun Dr e a k m=>pN 1 k z fun a k=>bsplit (Ca) (fun Bi=>?_) (fun Bi=>?_)
         · have h:=bif_t Bi h;refine rB k 123 z Bi fun k=>pN 14 k z fun a k=>?_;have k:=k.keep [2] z;refine nn (wp_ret (fS h k m z z))
         have h:=bif_f Bi h;refine rB k 123 z Bi fun k=>pN 4 k z fun a k=>sv k z (r_len (α:=List Int) (Enc.ow_rd Aq) k underlying31 z z) fun a k=>pN 4 k z fun a k=>bsplit (decide (Af ≤ (w64 ((w64 (4 * ((Aa.2.length:Int)))) - ((Am.length:Int)))))) (fun Bb=>?_) (fun Bb=>?_)
         · have h:=bif_t Bb h;refine rB k 132 z Bb fun k=>pN 5 k z fun a k=>?_;have k:=k.keep [2] z;refine nn (wp_ret (fS h k m z z))
         have h:=bif_f Bb h;refine rB k 132 z Bb fun k=>pN 5 k z fun a k=>?_;have k:=k.keep [2] z;refine nn (wp_ret (fS h k m z z))
       have h:=bif_f Ba h;refine rB k 119 z Ba fun k=>pN 18 k z fun a k=>?_;have k:=k.keep [2] z;refine nn (wp_ret (fS h k m z z))
     have h:=bif_f Be h;refine rB k 104 z Be fun k=>pN 6 k z fun a k=>sv k z (r_len (α:=List Int) (Enc.ow_rd Aq) k underlying31 z z) fun a k=>pN 8 k z fun a k=>bsplit (decide (Af ≤ (w64 (((Am.length:Int)) * (w64 ((w64 (4 * ((Aa.2.length:Int)))) - 1)))))) (fun Ax=>?_) (fun Ax=>?_)
     · have h:=bif_t Ax h;refine rB k 119 z Ax fun k=>sv k z (r_ldB ta30 m 1 Aj 0 k z z z z z z) fun a k=>pN 1 k z fun a k=>oE h fun Dd Cp h=>cE k m call28 z z z (c_impl_Mixes fu _ _ (mkRequest (m.q Ah 2 z) (m.q Ae 3 z) (m.q Ac 4 z)) (m.q Ao 5 z) Cp) fun Dx e a k m=>pN 1 k z fun a k=>bsplit (Dd) (fun Ay=>?_) (fun Ay=>?_)
       · have h:=bif_t Ay h;refine rB k 123 z Ay fun k=>pN 14 k z fun a k=>?_;have k:=k.keep [2] z;refine nn (wp_ret (fS h k m z z))
       have h:=bif_f Ay h;refine rB k 123 z Ay fun k=>pN 4 k z fun a k=>sv k z (r_len (α:=List Int) (Enc.ow_rd Aq) k underlying31 z z) fun a k=>pN 4 k z fun a k=>bsplit (decide (Af ≤ (w64 ((w64 (4 * ((Aa.2.length:Int)))) - ((Am.length:Int)))))) (fun Bf=>?_) (fun Bf=>?_)
       · have h:=bif_t Bf h;refine rB k 132 z Bf fun k=>pN 5 k z fun a k=>?_;have k:=k.keep [2] z;refine nn (wp_ret (fS h k m z z))
       have h:=bif_f Bf h;refine rB k 132 z Bf fun k=>pN 5 k z fun a k=>?_;have k:=k.keep [2] z;refine nn (wp_ret (fS h k m z z))
     have h:=bif_f Ax h;refine rB k 119 z Ax fun k=>pN 18 k z fun a k=>?_;have k:=k.keep [2] z;refine nn (wp_ret (fS h k m z z))
   have h:=bif_f Bd h;refine rB k 101 z Bd fun k=>pN 36 k z fun a k=>?_;have k:=k.keep [2] z;refine nn (wp_ret (fS h k m z z))
 exact ⟨0,0,k.keep [3,4,5,6,7,8] z,m.sel [1,2,3,4,5,0] z (by decide),h⟩

end Go.Proofs.YthddjkokpfdbnaaGreat
