/- FnExactSlackVolume: the walks of functions that the law reaches, part 7. Printed by gen.py. -/
import Derived.Test.YthjbcfefkdbgoaaGreatExactSlackVolumeW6
set_option maxRecDepth 20000
set_option linter.unusedSimpArgs false
set_option linter.unusedVariables false
namespace Go.Proofs.YthjbcfefkdbgoaaGreat
open Go Go.RowKit
open Enc (rd ow)
open Arg (argv)
open Ret (retv)

theorem ta28 : TA Tryz.prog 28 10 := ⟨Tryz.isAgg28, Tryz.sizeOf28⟩

def d_laws_FnExactSlackVolume (fu : Nat) (aR1 : Request) (aK5 : Int) : Option (Bool) :=
  obind (d_laws_szRequest fu aR1 1048576) fun x18 => bif (decide (x18 < 0)) then some (true) else obind (d_laws_toRequest fu aR1) fun x23 => obind (d_spec_SlackVolume fu x23 aK5) fun x41 => obind (d_laws_toRequest fu aR1) fun x45 => obind (d_impl_SlackVolume fu x45 aK5) fun x68 => bif (!(x68 == x41)) then some (false) else obind (d_laws_toRequest fu aR1) fun x74 => obind (d_laws_eqRequest fu x45 x74) fun x93 => bif (!x93) then some (false) else some (true)

theorem c_laws_FnExactSlackVolume (fu : Nat) {w0 : World} (aR1 : Request) (aK5 : Int) {cs2 : List Value} {F3 : List Nat} (hp4 : rd w0 F3 cs2 aR1) {r : Bool}
    (h : d_laws_FnExactSlackVolume fu aR1 aK5 = some r) :
    Calls Tryz.prog 6 #[.agg cs2.toArray, .int .i64 (aK5)] w0 fun e w => e = .returned (.bool (r)) ∧ Ext [] w0 w := by
  refine enter (vs := [_, _]) Tryz.func6 rfl Tryz.ntmps6 rfl fun a hK => ?_
  have hM := St.start w0
  obtain ⟨v6, F7, v8, F9, v10, F11, rfl, rfl, hf12, hf13, hf14⟩ := hp4
  unfold d_laws_FnExactSlackVolume at h
  refine wp_seq ?_
  refine wp_region_lit ?_
  refine s_box (cs := [.int .i64 (aR1.fWay), .int .i64 (aR1.fPallet.fW), .int .i64 (aR1.fPallet.fD), .int .i64 (aR1.fPallet.fH), .int .i64 (aR1.fPallet.fGram), .int .i64 (aR1.fClasses), v6, v8, .int .i64 (aR1.fMaster), v10]) hM hK rfl rfl rfl rfl rfl rfl fun b15 w17 a hK hM hE hb16 => ?_
  refine s1 hK rfl rfl rfl rfl fun a hK => ?_
  refine wpList_nil (nm_then ?_)
  refine wp_seq ?_
  refine wp_region_lit ?_
  refine s1 hK rfl rfl rfl rfl fun a hK => ?_
  refine wpList_nil (nm_then ?_)
  refine wp_seq ?_
  refine wp_region_lit ?_
  refine s_val hK rfl rfl rfl (r_ldB ta28 hM 0 hb16 0 hK rfl rfl rfl rfl rfl rfl) fun a hK => ?_
  refine s1 hK rfl rfl rfl rfl fun a hK => ?_
  obtain ⟨x18, hx19, h⟩ := obind_some h
  refine s_call hK Tryz.call15 rfl rfl rfl rfl rfl (c_laws_szRequest fu _ _ (show rd _ _ [.int .i64 (aR1.fWay), .int .i64 (aR1.fPallet.fW), .int .i64 (aR1.fPallet.fD), .int .i64 (aR1.fPallet.fH), .int .i64 (aR1.fPallet.fGram), .int .i64 (aR1.fClasses), v6, v8, .int .i64 (aR1.fMaster), v10] (aR1 : Request) from ⟨_, _, _, _, _, _, rfl, rfl, (Enc.rd_agr hf12 (hM.a00 (Enc.rd_lt hf12))), (Enc.rd_agr hf13 (hM.a00 (Enc.rd_lt hf13))), (Enc.rd_agr hf14 (hM.a00 (Enc.rd_lt hf14)))⟩) hx19) fun e20 w21 hR => ?_
  obtain ⟨rfl, hE⟩ := hR
  refine ⟨_, rfl, fun a hK => ?_⟩
  have hM := hM.step hE
  refine s1 hK rfl rfl rfl rfl fun a hK => ?_
  refine wpList_nil (nm_then ?_)
  refine wp_seq ?_
  refine wp_seq ?_
  refine wp_region_lit ?_
  iterate 2 (refine s1 hK rfl rfl rfl rfl fun a hK => ?_)
  refine wpList_nil (nm_then ?_)
  refine c_cond (b := decide (x18 < 0)) hK rfl (fun hb22 => ?_) (fun hb22 => ?_)
  · have h := bif_t hb22 h
    refine wp_seq ?_
    refine wp_region_lit ?_
    refine s1 hK rfl rfl rfl rfl fun a hK => ?_
    refine wpList_nil (nm_then ?_)
    refine wp_ret (rt_then ?_)
    have h := Option.some.inj h
    subst h
    exact finR1 hK rfl (RV.tmp hK rfl) ⟨rfl, hM.ext⟩
  · have h := bif_f hb22 h
    refine wp_skip (nm_then ?_)
    refine wp_seq ?_
    refine wp_region_lit ?_
    refine s_val hK rfl rfl rfl (r_ldB ta28 hM 0 hb16 0 hK rfl rfl rfl rfl rfl rfl) fun a hK => ?_
    obtain ⟨x23, hx24, h⟩ := obind_some h
    refine s_call hK Tryz.call18 rfl rfl rfl rfl rfl (c_laws_toRequest fu _ (show rd _ _ [.int .i64 (aR1.fWay), .int .i64 (aR1.fPallet.fW), .int .i64 (aR1.fPallet.fD), .int .i64 (aR1.fPallet.fH), .int .i64 (aR1.fPallet.fGram), .int .i64 (aR1.fClasses), v6, v8, .int .i64 (aR1.fMaster), v10] (aR1 : Request) from ⟨_, _, _, _, _, _, rfl, rfl, (Enc.rd_agr hf12 (hM.a00 (Enc.rd_lt hf12))), (Enc.rd_agr hf13 (hM.a00 (Enc.rd_lt hf13))), (Enc.rd_agr hf14 (hM.a00 (Enc.rd_lt hf14)))⟩) hx24) fun e25 w26 hR => ?_
    obtain ⟨cs31, F27, rfl, hE, hf28, hfr29⟩ := hR
    refine ⟨_, rfl, fun a hK => ?_⟩
    have hM := hM.new hE F27 (fun b hb => ⟨hfr29 b hb, Enc.rd_lt (Enc.ow_rd hf28) b hb⟩) (Enc.ow_nd hf28)
    obtain ⟨v32, F33, v35, F36, v38, F39, rfl, rfl, hf34, hf37, hf40, _⟩ := hf28
    have hM := hM.split2
    have hM := hM.split2at1
    refine s1 hK rfl rfl rfl rfl fun a hK => ?_
    obtain ⟨x41, hx42, h⟩ := obind_some h
    refine s_call hK Tryz.call31 rfl rfl rfl rfl rfl (c_spec_SlackVolume fu _ _ (show rd _ _ [.int .i64 (x23.fWay), .int .i64 (x23.fPallet.fW), .int .i64 (x23.fPallet.fD), .int .i64 (x23.fPallet.fH), .int .i64 (x23.fPallet.fGram), .int .i64 (x23.fClasses), v32, v35, .int .i64 (x23.fMaster), v38] (x23 : Request) from ⟨_, _, _, _, _, _, rfl, rfl, (Enc.rd_agr (Enc.ow_rd hf34) (hM.a 0 rfl)), (Enc.rd_agr (Enc.ow_rd hf37) (hM.a 1 rfl)), (Enc.rd_agr (Enc.ow_rd hf40) (hM.a 2 rfl))⟩) hx42) fun e43 w44 hR => ?_
    obtain ⟨rfl, hE⟩ := hR
    refine ⟨_, rfl, fun a hK => ?_⟩
    have hM := hM.step hE
    refine s1 hK rfl rfl rfl rfl fun a hK => ?_
    refine wpList_nil (nm_then ?_)
    refine wp_seq ?_
    refine wp_region_lit ?_
    refine s_val hK rfl rfl rfl (r_ldB ta28 hM 3 hb16 0 hK rfl rfl rfl rfl rfl rfl) fun a hK => ?_
    obtain ⟨x45, hx46, h⟩ := obind_some h
    refine s_call hK Tryz.call18 rfl rfl rfl rfl rfl (c_laws_toRequest fu _ (show rd _ _ [.int .i64 (aR1.fWay), .int .i64 (aR1.fPallet.fW), .int .i64 (aR1.fPallet.fD), .int .i64 (aR1.fPallet.fH), .int .i64 (aR1.fPallet.fGram), .int .i64 (aR1.fClasses), v6, v8, .int .i64 (aR1.fMaster), v10] (aR1 : Request) from ⟨_, _, _, _, _, _, rfl, rfl, (Enc.rd_agr hf12 (hM.a00 (Enc.rd_lt hf12))), (Enc.rd_agr hf13 (hM.a00 (Enc.rd_lt hf13))), (Enc.rd_agr hf14 (hM.a00 (Enc.rd_lt hf14)))⟩) hx46) fun e47 w48 hR => ?_
    obtain ⟨cs53, F49, rfl, hE, hf50, hfr51⟩ := hR
    refine ⟨_, rfl, fun a hK => ?_⟩
    have hM := hM.new hE F49 (fun b hb => ⟨hfr51 b hb, Enc.rd_lt (Enc.ow_rd hf50) b hb⟩) (Enc.ow_nd hf50)
    obtain ⟨v54, F55, v57, F58, v60, F61, rfl, rfl, hf56, hf59, hf62, _⟩ := hf50
    have hM := hM.split2
    have hM := hM.split2at1
    refine s_alloc (cs := [.int .i64 (0), .int .i64 (0), .int .i64 (0), .int .i64 (0), .int .i64 (0), .int .i64 (0), .slice none 0 0, .slice none 0 0, .int .i64 (0), .slice none 0 0]) hM hK Tryz.zeroValue40 rfl rfl rfl rfl rfl fun b63 w65 a hK hM hE hb64 => ?_
    refine s_stb (cs' := [.int .i64 (x45.fWay), .int .i64 (x45.fPallet.fW), .int .i64 (x45.fPallet.fD), .int .i64 (x45.fPallet.fH), .int .i64 (x45.fPallet.fGram), .int .i64 (x45.fClasses), v54, v57, .int .i64 (x45.fMaster), v60]) Tryz.sizeOf40 hM 0 hb64 0 hK rfl rfl rfl rfl rfl rfl rfl rfl rfl rfl (allc rfl (allc rfl (allc rfl (allc rfl (allc rfl (allc rfl (allc (rd_o (Enc.ow_rd hf56)) (allc (rd_o (Enc.ow_rd hf59)) (allc rfl (allc (rd_o (Enc.ow_rd hf62)) alln)))))))))) fun w66 a hK hE hM hb67 => ?_
    refine wpList_nil (nm_then ?_)
    refine wp_seq ?_
    refine wp_region_lit ?_
    refine s_val hK rfl rfl rfl (r_ldB ta40 hM 0 hb67 0 hK rfl rfl rfl rfl rfl rfl) fun a hK => ?_
    refine s1 hK rfl rfl rfl rfl fun a hK => ?_
    obtain ⟨x68, hx69, h⟩ := obind_some h
    refine s_call hK Tryz.call32 rfl rfl rfl rfl rfl (c_impl_SlackVolume fu _ _ (show rd _ _ [.int .i64 (x45.fWay), .int .i64 (x45.fPallet.fW), .int .i64 (x45.fPallet.fD), .int .i64 (x45.fPallet.fH), .int .i64 (x45.fPallet.fGram), .int .i64 (x45.fClasses), v54, v57, .int .i64 (x45.fMaster), v60] (x45 : Request) from ⟨_, _, _, _, _, _, rfl, rfl, (Enc.rd_agr (Enc.ow_rd hf56) (hM.a 1 rfl)), (Enc.rd_agr (Enc.ow_rd hf59) (hM.a 2 rfl)), (Enc.rd_agr (Enc.ow_rd hf62) (hM.a 3 rfl))⟩) hx69) fun e70 w71 hR => ?_
    obtain ⟨rfl, hE⟩ := hR
    refine ⟨_, rfl, fun a hK => ?_⟩
    have hM := hM.step hE
    refine s1 hK rfl rfl rfl rfl fun a hK => ?_
    refine wpList_nil (nm_then ?_)
    refine wp_seq ?_
    refine wp_seq ?_
    refine wp_region_lit ?_
    iterate 2 (refine s1 hK rfl rfl rfl rfl fun a hK => ?_)
    refine s_val hK rfl rfl rfl (r_neb hK Tryz.underlying4 rfl rfl rfl) fun a hK => ?_
    have hK := hK.keep [2, 7, 25] rfl
    refine wpList_nil (nm_then ?_)
    refine c_cond (b := !(x68 == x41)) hK rfl (fun hb72 => ?_) (fun hb72 => ?_)
    · have h := bif_t hb72 h
      refine wp_seq ?_
      refine wp_region_lit ?_
      refine s1 hK rfl rfl rfl rfl fun a hK => ?_
      refine wpList_nil (nm_then ?_)
      refine wp_ret (rt_then ?_)
      have h := Option.some.inj h
      subst h
      exact finR1 hK rfl (RV.tmp hK rfl) ⟨rfl, hM.ext⟩
    · have h := bif_f hb72 h
      refine wp_skip (nm_then ?_)
      refine wp_seq ?_
      refine wp_seq ?_
      refine d_go [] mixo hM rfl fun w73 hMd => ?_
      have hM := hMd
      have hS := Ext.refl ([] : List Nat) w73
      refine d_take hK 0 rfl (by kernel_rfl) (by kernel_rfl) (by kernel_rfl) rfl rfl rfl hS (fun _ _ _ h => h) (fun w hS => r_ldA ta40 (hb67.at ((hMd.step hS).a 0 rfl) 0 10 rfl rfl rfl) rfl hK rfl rfl) fun a hK => ?_
      refine d_take hK 1 rfl (by kernel_rfl) (by kernel_rfl) (by kernel_rfl) rfl rfl rfl hS (fun _ _ _ h => h) (fun w hS => r_ldA ta28 (hb16.at ((hMd.step hS).a 7 rfl) 0 10 rfl rfl rfl) rfl hK rfl rfl) fun a hK => ?_
      refine d_one 2 (by kernel_rfl) rfl ?_
      obtain ⟨x74, hx75, h⟩ := obind_some h
      refine s_call hK Tryz.call18 rfl rfl rfl rfl rfl (c_laws_toRequest fu _ (show rd _ _ [.int .i64 (aR1.fWay), .int .i64 (aR1.fPallet.fW), .int .i64 (aR1.fPallet.fD), .int .i64 (aR1.fPallet.fH), .int .i64 (aR1.fPallet.fGram), .int .i64 (aR1.fClasses), v6, v8, .int .i64 (aR1.fMaster), v10] (aR1 : Request) from ⟨_, _, _, _, _, _, rfl, rfl, (Enc.rd_agr hf12 (hM.a00 (Enc.rd_lt hf12))), (Enc.rd_agr hf13 (hM.a00 (Enc.rd_lt hf13))), (Enc.rd_agr hf14 (hM.a00 (Enc.rd_lt hf14)))⟩) hx75) fun e76 w77 hR => ?_
      obtain ⟨cs82, F78, rfl, hE, hf79, hfr80⟩ := hR
      refine ⟨_, rfl, fun a hK => ?_⟩
      have hM := hM.new hE F78 (fun b hb => ⟨hfr80 b hb, Enc.rd_lt (Enc.ow_rd hf79) b hb⟩) (Enc.ow_nd hf79)
      have hlo83 := fun (y : Nat) (hy : y ∈ F78) => Nat.le_trans hS.size (hfr80 y hy)
      obtain ⟨v84, F85, v87, F88, v90, F91, rfl, rfl, hf86, hf89, hf92, _⟩ := hf79
      have hM := hM.split2
      have hM := hM.split2at1
      have hS := hS.trans hE (by simp)
      refine wpList_nil ⟨hS, ?_⟩
      refine d_one 3 (by kernel_rfl) rfl ?_
      obtain ⟨x93, hx94, h⟩ := obind_some h
      refine s_call hK Tryz.call21 rfl rfl rfl rfl rfl (c_laws_eqRequest fu _ _ (show rd _ _ [.int .i64 (x45.fWay), .int .i64 (x45.fPallet.fW), .int .i64 (x45.fPallet.fD), .int .i64 (x45.fPallet.fH), .int .i64 (x45.fPallet.fGram), .int .i64 (x45.fClasses), v54, v57, .int .i64 (x45.fMaster), v60] (x45 : Request) from ⟨_, _, _, _, _, _, rfl, rfl, (Enc.rd_agr (Enc.ow_rd hf56) (hM.a 4 rfl)), (Enc.rd_agr (Enc.ow_rd hf59) (hM.a 5 rfl)), (Enc.rd_agr (Enc.ow_rd hf62) (hM.a 6 rfl))⟩) (show rd _ _ [.int .i64 (x74.fWay), .int .i64 (x74.fPallet.fW), .int .i64 (x74.fPallet.fD), .int .i64 (x74.fPallet.fH), .int .i64 (x74.fPallet.fGram), .int .i64 (x74.fClasses), v84, v87, .int .i64 (x74.fMaster), v90] (x74 : Request) from ⟨_, _, _, _, _, _, rfl, rfl, (Enc.rd_agr (Enc.ow_rd hf86) (hM.a 0 rfl)), (Enc.rd_agr (Enc.ow_rd hf89) (hM.a 1 rfl)), (Enc.rd_agr (Enc.ow_rd hf92) (hM.a 2 rfl))⟩) hx94) fun e95 w96 hR => ?_
      obtain ⟨rfl, hE⟩ := hR
      refine ⟨_, rfl, fun a hK => ?_⟩
      have hM := hM.step hE
      have hS := hS.trans hE (by simp)
      refine wpList_nil ⟨hS, ?_⟩
      refine d_pure hK 4 rfl (by kernel_rfl) (by kernel_rfl) (by kernel_rfl) rfl rfl rfl hS (fun _ _ _ h => h) rfl fun a hK => ?_
      refine d_done (by kernel_rfl) ?_
      refine (nm_then ?_)
      refine c_cond (b := !x93) hK rfl (fun hb97 => ?_) (fun hb97 => ?_)
      · have h := bif_t hb97 h
        refine wp_seq ?_
        refine wp_region_lit ?_
        refine s1 hK rfl rfl rfl rfl fun a hK => ?_
        refine wpList_nil (nm_then ?_)
        refine wp_ret (rt_then ?_)
        have h := Option.some.inj h
        subst h
        exact finR1 hK rfl (RV.tmp hK rfl) ⟨rfl, hM.ext⟩
      · have h := bif_f hb97 h
        refine wp_skip (nm_then ?_)
        refine wp_seq ?_
        refine wp_region_lit ?_
        refine s1 hK rfl rfl rfl rfl fun a hK => ?_
        refine wpList_nil (nm_then ?_)
        refine wp_ret ?_
        have h := Option.some.inj h
        subst h
        exact finR1 hK rfl (RV.tmp hK rfl) ⟨rfl, hM.ext⟩

end Go.Proofs.YthjbcfefkdbgoaaGreat
