/- FnExactOneEach: the walks of functions that the law reaches, part 6. Printed by gen.py. -/
import Derived.Test.YthjbcfefkdbgoaaGreatExactOneEachW5
set_option maxRecDepth 20000
set_option linter.unusedVariables false
namespace Go.Proofs.YthjbcfefkdbgoaaGreat
open Go Go.RowKit

theorem ta28 : TA Tryz.prog 28 10 := ⟨Tryz.isAgg28, Tryz.sizeOf28⟩

def d_laws_FnExactOneEach_J1 (fu : Nat) (aR1 : Request) (x40 : (List (List Int))) (x72 : (List (List Int)))  : Option (Bool) :=
  obind (d_laws_markIntSS fu x72 1) fun x139 => obind (d_laws_heldIntSS fu x139.2 1) fun x146 => bif (decide (x146 < 0)) then some (false) else bif (x146 != x139.1) then some (false) else obind (d_laws_toRequest fu aR1) fun x152 => obind (d_impl_OneEach fu x152) fun x170 => obind (d_laws_eqIntSS fu x170 x40) fun x179 => bif (!x179) then some (false) else obind (d_laws_heldIntSS fu x139.2 1) fun x184 => bif (decide (x184 < 0)) then some (false) else bif (x184 != x139.1) then some (false) else some (true)

def d_laws_FnExactOneEach (fu : Nat) (aR1 : Request) : Option (Bool) :=
  obind (d_laws_szRequest fu aR1 1048576) fun x17 => bif (decide (x17 < 0)) then some (true) else obind (d_laws_toRequest fu aR1) fun x22 => obind (d_spec_OneEach fu x22) fun x40 => obind (d_laws_toRequest fu aR1) fun x49 => obind (d_impl_OneEach fu x49) fun x72 => obind (d_laws_eqIntSS fu x72 x40) fun x81 => bif (!x81) then some (false) else obind (d_laws_toRequest fu aR1) fun x87 => obind (d_laws_eqRequest fu x49 x87) fun x106 => bif (!x106) then some (false) else obind (d_laws_markRequest fu x49 1) fun x112 => bif (decide (x112.1 < 0)) then some (false) else obind (d_laws_eqIntSS fu x72 x40) fun x191 => bif (!x191) then some (false) else d_laws_FnExactOneEach_J1 fu aR1 x40 x72

theorem c_laws_FnExactOneEach (fu : Nat) {w0 : World} (aR1 : Request) {cs2 : List Value} {F3 : List Nat} (hp4 : rd w0 F3 cs2 aR1) {r : Bool}
    (h : d_laws_FnExactOneEach fu aR1 = some r) :
    Calls Tryz.prog 4 #[.agg cs2.toArray] w0 fun e w => e = .returned (.bool (r)) ∧ Ext [] w0 w := by
  refine enter (vs := [_]) Tryz.func4 rfl Tryz.ntmps4 rfl fun a hK => ?_
  have hM := St.start w0
  obtain ⟨v5, F6, v7, F8, v9, F10, rfl, rfl, hf11, hf12, hf13⟩ := hp4
  unfold d_laws_FnExactOneEach at h
  refine wp_seq ?_
  refine wp_region_lit ?_
  refine s_box (cs := [.int .i64 (aR1.fWay), .int .i64 (aR1.fPallet.fW), .int .i64 (aR1.fPallet.fD), .int .i64 (aR1.fPallet.fH), .int .i64 (aR1.fPallet.fGram), .int .i64 (aR1.fClasses), v5, v7, .int .i64 (aR1.fMaster), v9]) hM hK rfl rfl rfl rfl rfl rfl fun b14 w16 a hK hM hE hb15 => ?_
  refine s1 hK rfl rfl rfl rfl fun a hK => ?_
  refine wpList_nil (nm_then ?_)
  refine wp_seq ?_
  refine wp_region_lit ?_
  refine s1 hK rfl rfl rfl rfl fun a hK => ?_
  refine wpList_nil (nm_then ?_)
  refine wp_seq ?_
  refine wp_region_lit ?_
  refine s_val hK rfl rfl rfl (r_ldB ta28 hM 0 hb15 0 hK rfl rfl rfl rfl rfl rfl) fun a hK => ?_
  refine s1 hK rfl rfl rfl rfl fun a hK => ?_
  obtain ⟨x17, hx18, h⟩ := obind_some h
  refine s_call hK Tryz.call15 rfl rfl rfl rfl rfl (c_laws_szRequest fu _ _ (show rd _ _ [.int .i64 (aR1.fWay), .int .i64 (aR1.fPallet.fW), .int .i64 (aR1.fPallet.fD), .int .i64 (aR1.fPallet.fH), .int .i64 (aR1.fPallet.fGram), .int .i64 (aR1.fClasses), v5, v7, .int .i64 (aR1.fMaster), v9] (aR1 : Request) from ⟨_, _, _, _, _, _, rfl, rfl, (Enc.rd_agr hf11 (hM.a00 (Enc.rd_lt hf11))), (Enc.rd_agr hf12 (hM.a00 (Enc.rd_lt hf12))), (Enc.rd_agr hf13 (hM.a00 (Enc.rd_lt hf13)))⟩) hx18) fun e19 w20 hR => ?_
  obtain ⟨rfl, hE⟩ := hR
  refine ⟨_, rfl, fun a hK => ?_⟩
  have hM := hM.step hE
  refine s1 hK rfl rfl rfl rfl fun a hK => ?_
  refine wpList_nil (nm_then ?_)
  refine wp_seq ?_
  refine wp_seq ?_
  refine wp_region_lit ?_
  iterate 2 (refine s1 hK rfl rfl rfl rfl fun a hK => ?_)
  refine wpList_nil (nm_then ?_)
  refine c_cond (b := decide (x17 < 0)) hK rfl (fun hb21 => ?_) (fun hb21 => ?_)
  · have h := bif_t hb21 h
    refine wp_seq ?_
    refine wp_region_lit ?_
    refine s1 hK rfl rfl rfl rfl fun a hK => ?_
    refine wpList_nil (nm_then ?_)
    refine wp_ret (rt_then ?_)
    have h := Option.some.inj h
    subst h
    exact finR1 hK rfl (RV.tmp hK rfl) ⟨rfl, hM.ext⟩
  · have h := bif_f hb21 h
    refine wp_skip (nm_then ?_)
    refine wp_seq ?_
    refine wp_region_lit ?_
    refine s_val hK rfl rfl rfl (r_ldB ta28 hM 0 hb15 0 hK rfl rfl rfl rfl rfl rfl) fun a hK => ?_
    obtain ⟨x22, hx23, h⟩ := obind_some h
    refine s_call hK Tryz.call18 rfl rfl rfl rfl rfl (c_laws_toRequest fu _ (show rd _ _ [.int .i64 (aR1.fWay), .int .i64 (aR1.fPallet.fW), .int .i64 (aR1.fPallet.fD), .int .i64 (aR1.fPallet.fH), .int .i64 (aR1.fPallet.fGram), .int .i64 (aR1.fClasses), v5, v7, .int .i64 (aR1.fMaster), v9] (aR1 : Request) from ⟨_, _, _, _, _, _, rfl, rfl, (Enc.rd_agr hf11 (hM.a00 (Enc.rd_lt hf11))), (Enc.rd_agr hf12 (hM.a00 (Enc.rd_lt hf12))), (Enc.rd_agr hf13 (hM.a00 (Enc.rd_lt hf13)))⟩) hx23) fun e24 w25 hR => ?_
    obtain ⟨cs30, F26, rfl, hE, hf27, hfr28⟩ := hR
    refine ⟨_, rfl, fun a hK => ?_⟩
    have hM := hM.new hE F26 (fun b hb => ⟨hfr28 b hb, Enc.rd_lt (Enc.ow_rd hf27) b hb⟩) (Enc.ow_nd hf27)
    obtain ⟨v31, F32, v34, F35, v37, F38, rfl, rfl, hf33, hf36, hf39, _⟩ := hf27
    have hM := hM.split2
    have hM := hM.split2at1
    obtain ⟨x40, hx41, h⟩ := obind_some h
    refine s_call hK Tryz.call23 rfl rfl rfl rfl rfl (c_spec_OneEach fu _ (show rd _ _ [.int .i64 (x22.fWay), .int .i64 (x22.fPallet.fW), .int .i64 (x22.fPallet.fD), .int .i64 (x22.fPallet.fH), .int .i64 (x22.fPallet.fGram), .int .i64 (x22.fClasses), v31, v34, .int .i64 (x22.fMaster), v37] (x22 : Request) from ⟨_, _, _, _, _, _, rfl, rfl, (Enc.rd_agr (Enc.ow_rd hf33) (hM.a 0 rfl)), (Enc.rd_agr (Enc.ow_rd hf36) (hM.a 1 rfl)), (Enc.rd_agr (Enc.ow_rd hf39) (hM.a 2 rfl))⟩) hx41) fun e42 w43 hR => ?_
    obtain ⟨v48, F44, rfl, hE, hf45, hfr46⟩ := hR
    refine ⟨_, rfl, fun a hK => ?_⟩
    have hM := hM.new hE F44 (fun b hb => ⟨hfr46 b hb, Enc.rd_lt (Enc.ow_rd hf45) b hb⟩) (Enc.ow_nd hf45)
    refine s1 hK rfl rfl rfl rfl fun a hK => ?_
    refine wpList_nil (nm_then ?_)
    refine wp_seq ?_
    refine wp_region_lit ?_
    refine s_val hK rfl rfl rfl (r_ldB ta28 hM 4 hb15 0 hK rfl rfl rfl rfl rfl rfl) fun a hK => ?_
    obtain ⟨x49, hx50, h⟩ := obind_some h
    refine s_call hK Tryz.call18 rfl rfl rfl rfl rfl (c_laws_toRequest fu _ (show rd _ _ [.int .i64 (aR1.fWay), .int .i64 (aR1.fPallet.fW), .int .i64 (aR1.fPallet.fD), .int .i64 (aR1.fPallet.fH), .int .i64 (aR1.fPallet.fGram), .int .i64 (aR1.fClasses), v5, v7, .int .i64 (aR1.fMaster), v9] (aR1 : Request) from ⟨_, _, _, _, _, _, rfl, rfl, (Enc.rd_agr hf11 (hM.a00 (Enc.rd_lt hf11))), (Enc.rd_agr hf12 (hM.a00 (Enc.rd_lt hf12))), (Enc.rd_agr hf13 (hM.a00 (Enc.rd_lt hf13)))⟩) hx50) fun e51 w52 hR => ?_
    obtain ⟨cs57, F53, rfl, hE, hf54, hfr55⟩ := hR
    refine ⟨_, rfl, fun a hK => ?_⟩
    have hM := hM.new hE F53 (fun b hb => ⟨hfr55 b hb, Enc.rd_lt (Enc.ow_rd hf54) b hb⟩) (Enc.ow_nd hf54)
    obtain ⟨v58, F59, v61, F62, v64, F65, rfl, rfl, hf60, hf63, hf66, _⟩ := hf54
    have hM := hM.split2
    have hM := hM.split2at1
    refine s_alloc (cs := [.int .i64 (0), .int .i64 (0), .int .i64 (0), .int .i64 (0), .int .i64 (0), .int .i64 (0), .slice none 0 0, .slice none 0 0, .int .i64 (0), .slice none 0 0]) hM hK Tryz.zeroValue40 rfl rfl rfl rfl rfl fun b67 w69 a hK hM hE hb68 => ?_
    refine s_stb (cs' := [.int .i64 (x49.fWay), .int .i64 (x49.fPallet.fW), .int .i64 (x49.fPallet.fD), .int .i64 (x49.fPallet.fH), .int .i64 (x49.fPallet.fGram), .int .i64 (x49.fClasses), v58, v61, .int .i64 (x49.fMaster), v64]) Tryz.sizeOf40 hM 0 hb68 0 hK rfl rfl rfl rfl rfl rfl rfl rfl rfl rfl (allc rfl (allc rfl (allc rfl (allc rfl (allc rfl (allc rfl (allc (rd_o (Enc.ow_rd hf60)) (allc (rd_o (Enc.ow_rd hf63)) (allc rfl (allc (rd_o (Enc.ow_rd hf66)) alln)))))))))) fun w70 a hK hE hM hb71 => ?_
    refine wpList_nil (nm_then ?_)
    refine wp_seq ?_
    refine wp_region_lit ?_
    refine s_val hK rfl rfl rfl (r_ldB ta40 hM 0 hb71 0 hK rfl rfl rfl rfl rfl rfl) fun a hK => ?_
    obtain ⟨x72, hx73, h⟩ := obind_some h
    refine s_call hK Tryz.call24 rfl rfl rfl rfl rfl (c_impl_OneEach fu _ (show rd _ _ [.int .i64 (x49.fWay), .int .i64 (x49.fPallet.fW), .int .i64 (x49.fPallet.fD), .int .i64 (x49.fPallet.fH), .int .i64 (x49.fPallet.fGram), .int .i64 (x49.fClasses), v58, v61, .int .i64 (x49.fMaster), v64] (x49 : Request) from ⟨_, _, _, _, _, _, rfl, rfl, (Enc.rd_agr (Enc.ow_rd hf60) (hM.a 1 rfl)), (Enc.rd_agr (Enc.ow_rd hf63) (hM.a 2 rfl)), (Enc.rd_agr (Enc.ow_rd hf66) (hM.a 3 rfl))⟩) hx73) fun e74 w75 hR => ?_
    obtain ⟨v80, F76, rfl, hE, hf77, hfr78⟩ := hR
    refine ⟨_, rfl, fun a hK => ?_⟩
    have hM := hM.new hE F76 (fun b hb => ⟨hfr78 b hb, Enc.rd_lt (Enc.ow_rd hf77) b hb⟩) (Enc.ow_nd hf77)
    refine s1 hK rfl rfl rfl rfl fun a hK => ?_
    refine wpList_nil (nm_then ?_)
    refine wp_seq ?_
    refine wp_seq ?_
    refine wp_region_lit ?_
    iterate 2 (refine s1 hK rfl rfl rfl rfl fun a hK => ?_)
    obtain ⟨x81, hx82, h⟩ := obind_some h
    refine s_call hK Tryz.call25 rfl rfl rfl rfl rfl (c_laws_eqIntSS fu _ _ (Enc.rd_agr (Enc.ow_rd hf77) (hM.a 0 rfl)) (Enc.rd_agr (Enc.ow_rd hf45) (hM.a 5 rfl)) hx82) fun e83 w84 hR => ?_
    obtain ⟨rfl, hE⟩ := hR
    refine ⟨_, rfl, fun a hK => ?_⟩
    have hM := hM.step hE
    refine s1 hK rfl rfl rfl rfl fun a hK => ?_
    refine wpList_nil (nm_then ?_)
    refine c_cond (b := !x81) hK rfl (fun hb85 => ?_) (fun hb85 => ?_)
    · have h := bif_t hb85 h
      refine wp_seq ?_
      refine wp_region_lit ?_
      refine s1 hK rfl rfl rfl rfl fun a hK => ?_
      have hK := hK.keep [2] rfl
      refine wpList_nil (nm_then ?_)
      refine wp_ret (rt_then ?_)
      have h := Option.some.inj h
      subst h
      exact finR1 hK rfl (RV.tmp hK rfl) ⟨rfl, hM.ext⟩
    · have h := bif_f hb85 h
      refine wp_skip (nm_then ?_)
      refine wp_seq ?_
      refine wp_seq ?_
      refine d_go [] mixo hM rfl fun w86 hMd => ?_
      have hM := hMd
      have hS := Ext.refl ([] : List Nat) w86
      refine d_take hK 0 rfl (by kernel_rfl) (by kernel_rfl) (by kernel_rfl) rfl rfl rfl hS (fun _ _ _ h => h) (fun w hS => r_ldA ta40 (hb71.at ((hMd.step hS).a 1 rfl) 0 10 rfl rfl rfl) rfl hK rfl rfl) fun a hK => ?_
      refine d_take hK 1 rfl (by kernel_rfl) (by kernel_rfl) (by kernel_rfl) rfl rfl rfl hS (fun _ _ _ h => h) (fun w hS => r_ldA ta28 (hb15.at ((hMd.step hS).a 9 rfl) 0 10 rfl rfl rfl) rfl hK rfl rfl) fun a hK => ?_
      refine d_one 2 (by kernel_rfl) rfl ?_
      obtain ⟨x87, hx88, h⟩ := obind_some h
      refine s_call hK Tryz.call18 rfl rfl rfl rfl rfl (c_laws_toRequest fu _ (show rd _ _ [.int .i64 (aR1.fWay), .int .i64 (aR1.fPallet.fW), .int .i64 (aR1.fPallet.fD), .int .i64 (aR1.fPallet.fH), .int .i64 (aR1.fPallet.fGram), .int .i64 (aR1.fClasses), v5, v7, .int .i64 (aR1.fMaster), v9] (aR1 : Request) from ⟨_, _, _, _, _, _, rfl, rfl, (Enc.rd_agr hf11 (hM.a00 (Enc.rd_lt hf11))), (Enc.rd_agr hf12 (hM.a00 (Enc.rd_lt hf12))), (Enc.rd_agr hf13 (hM.a00 (Enc.rd_lt hf13)))⟩) hx88) fun e89 w90 hR => ?_
      obtain ⟨cs95, F91, rfl, hE, hf92, hfr93⟩ := hR
      refine ⟨_, rfl, fun a hK => ?_⟩
      have hM := hM.new hE F91 (fun b hb => ⟨hfr93 b hb, Enc.rd_lt (Enc.ow_rd hf92) b hb⟩) (Enc.ow_nd hf92)
      have hlo96 := fun (y : Nat) (hy : y ∈ F91) => Nat.le_trans hS.size (hfr93 y hy)
      obtain ⟨v97, F98, v100, F101, v103, F104, rfl, rfl, hf99, hf102, hf105, _⟩ := hf92
      have hM := hM.split2
      have hM := hM.split2at1
      have hS := hS.trans hE (by simp)
      refine wpList_nil ⟨hS, ?_⟩
      refine d_one 3 (by kernel_rfl) rfl ?_
      obtain ⟨x106, hx107, h⟩ := obind_some h
      refine s_call hK Tryz.call21 rfl rfl rfl rfl rfl (c_laws_eqRequest fu _ _ (show rd _ _ [.int .i64 (x49.fWay), .int .i64 (x49.fPallet.fW), .int .i64 (x49.fPallet.fD), .int .i64 (x49.fPallet.fH), .int .i64 (x49.fPallet.fGram), .int .i64 (x49.fClasses), v58, v61, .int .i64 (x49.fMaster), v64] (x49 : Request) from ⟨_, _, _, _, _, _, rfl, rfl, (Enc.rd_agr (Enc.ow_rd hf60) (hM.a 5 rfl)), (Enc.rd_agr (Enc.ow_rd hf63) (hM.a 6 rfl)), (Enc.rd_agr (Enc.ow_rd hf66) (hM.a 7 rfl))⟩) (show rd _ _ [.int .i64 (x87.fWay), .int .i64 (x87.fPallet.fW), .int .i64 (x87.fPallet.fD), .int .i64 (x87.fPallet.fH), .int .i64 (x87.fPallet.fGram), .int .i64 (x87.fClasses), v97, v100, .int .i64 (x87.fMaster), v103] (x87 : Request) from ⟨_, _, _, _, _, _, rfl, rfl, (Enc.rd_agr (Enc.ow_rd hf99) (hM.a 0 rfl)), (Enc.rd_agr (Enc.ow_rd hf102) (hM.a 1 rfl)), (Enc.rd_agr (Enc.ow_rd hf105) (hM.a 2 rfl))⟩) hx107) fun e108 w109 hR => ?_
      obtain ⟨rfl, hE⟩ := hR
      refine ⟨_, rfl, fun a hK => ?_⟩
      have hM := hM.step hE
      have hS := hS.trans hE (by simp)
      refine wpList_nil ⟨hS, ?_⟩
      refine d_pure hK 4 rfl (by kernel_rfl) (by kernel_rfl) (by kernel_rfl) rfl rfl rfl hS (fun _ _ _ h => h) rfl fun a hK => ?_
      refine d_done (by kernel_rfl) ?_
      have hK := hK.keep [1, 4, 5, 6, 31] rfl
      refine (nm_then ?_)
      refine c_cond (b := !x106) hK rfl (fun hb110 => ?_) (fun hb110 => ?_)
      · have h := bif_t hb110 h
        refine wp_seq ?_
        refine wp_region_lit ?_
        refine s1 hK rfl rfl rfl rfl fun a hK => ?_
        refine wpList_nil (nm_then ?_)
        refine wp_ret (rt_then ?_)
        have h := Option.some.inj h
        subst h
        exact finR1 hK rfl (RV.tmp hK rfl) ⟨rfl, hM.ext⟩
      · have h := bif_f hb110 h
        refine wp_skip (nm_then ?_)
        refine wp_seq ?_
        refine wp_region_lit ?_
        refine s1 hK rfl rfl rfl rfl fun a hK => ?_
        refine wpList_nil (nm_then ?_)
        refine wp_seq ?_
        refine wp_region_lit ?_
        refine s_val hK rfl rfl rfl (r_ldB ta40 hM 4 hb71 0 hK rfl rfl rfl rfl rfl rfl) fun a hK => ?_
        refine s1 hK rfl rfl rfl rfl fun a hK => ?_
        have hy111 : ow _ (F59 ++ (F62 ++ (F65))) [.int .i64 (x49.fWay), .int .i64 (x49.fPallet.fW), .int .i64 (x49.fPallet.fD), .int .i64 (x49.fPallet.fH), .int .i64 (x49.fPallet.fGram), .int .i64 (x49.fClasses), v58, v61, .int .i64 (x49.fMaster), v64] (x49 : Request) := ⟨_, _, _, _, _, _, rfl, rfl, (Enc.ow_agr hf60 (hM.a 5 rfl)), (Enc.ow_agr hf63 (hM.a 6 rfl)), (Enc.ow_agr hf66 (hM.a 7 rfl)), by simpa [fps] using (hM.sel [5, 6, 7] rfl (by decide)).nd⟩
        have hM := hM.sel [5, 6, 7, 0, 1, 2, 3, 4, 8, 9, 10, 11, 12] rfl (by decide)
        have hM := hM.join3
        obtain ⟨x112, hx113, h⟩ := obind_some h
        refine s_call hK Tryz.call26 rfl rfl rfl rfl rfl (c_laws_markRequest fu _ _ hy111 hx113) fun e114 w115 hR => ?_
        obtain ⟨F118, rfl, hE, hlo117, hf116⟩ := hR
        refine ⟨_, rfl, fun a hK => ?_⟩
        have hM := hM.mut 0 rfl hE _ (fun b hb => ⟨hlo117 b hb, Enc.rd_lt (Enc.ow_rd hf116) b hb⟩) (Enc.ow_nd hf116)
        obtain ⟨v119, F120, v122, F123, v125, F126, heq128, rfl, hf121, hf124, hf127, _⟩ := hf116
        have hM := hM.toFront 0 rfl
        have hM := hM.split2
        have hM := hM.split2at1
        have he129 : v58 = v119 := by have := congrArg (fun l : List Value => l[6]?) heq128; simpa using this
        subst he129
        have he130 : v61 = v122 := by have := congrArg (fun l : List Value => l[7]?) heq128; simpa using this
        subst he130
        have he131 : v64 = v125 := by have := congrArg (fun l : List Value => l[9]?) heq128; simpa using this
        subst he131
        refine s1 hK rfl rfl rfl rfl fun a hK => ?_
        refine wpList_nil (nm_then ?_)
        refine c_cut (fun a w => K 69 [(1, .pointer (some (⟨b14, 0, none⟩ : Addr))), (4, v48), (6, v80)] a ∧ St [] w0 w [([b14], w16), (F44, w43), (F76, w75)] ∧ d_laws_FnExactOneEach_J1 fu aR1 x40 x72 = some r) ?_ ?_
        · rintro a w138 ⟨hK, hM, h⟩
          unfold d_laws_FnExactOneEach_J1 at h
          refine wp_seq ?_
          refine wp_region_lit ?_
          refine s1 hK rfl rfl rfl rfl fun a hK => ?_
          refine wpList_nil (nm_then ?_)
          refine wp_seq ?_
          refine wp_region_lit ?_
          iterate 2 (refine s1 hK rfl rfl rfl rfl fun a hK => ?_)
          obtain ⟨x139, hx140, h⟩ := obind_some h
          refine s_call hK Tryz.call27 rfl rfl rfl rfl rfl (c_laws_markIntSS fu _ _ (Enc.ow_agr hf77 (hM.a 2 rfl)) hx140) fun e141 w142 hR => ?_
          obtain ⟨F145, rfl, hE, hlo144, hf143⟩ := hR
          refine ⟨_, rfl, fun a hK => ?_⟩
          have hM := hM.mut 2 rfl hE _ (fun b hb => ⟨hlo144 b hb, Enc.rd_lt (Enc.ow_rd hf143) b hb⟩) (Enc.ow_nd hf143)
          refine s1 hK rfl rfl rfl rfl fun a hK => ?_
          refine wpList_nil (nm_then ?_)
          refine wp_seq ?_
          refine wp_region_lit ?_
          refine s1 hK rfl rfl rfl rfl fun a hK => ?_
          refine wpList_nil (nm_then ?_)
          refine wp_seq ?_
          refine wp_region_lit ?_
          iterate 2 (refine s1 hK rfl rfl rfl rfl fun a hK => ?_)
          obtain ⟨x146, hx147, h⟩ := obind_some h
          refine s_call hK Tryz.call28 rfl rfl rfl rfl rfl (c_laws_heldIntSS fu _ _ (Enc.rd_agr (Enc.ow_rd hf143) (hM.a 2 rfl)) hx147) fun e148 w149 hR => ?_
          obtain ⟨rfl, hE⟩ := hR
          refine ⟨_, rfl, fun a hK => ?_⟩
          have hM := hM.step hE
          refine s1 hK rfl rfl rfl rfl fun a hK => ?_
          refine wpList_nil (nm_then ?_)
          refine wp_seq ?_
          refine wp_seq ?_
          refine wp_region_lit ?_
          iterate 2 (refine s1 hK rfl rfl rfl rfl fun a hK => ?_)
          refine wpList_nil (nm_then ?_)
          refine c_cond (b := decide (x146 < 0)) hK rfl (fun hb150 => ?_) (fun hb150 => ?_)
          · have h := bif_t hb150 h
            refine wp_seq ?_
            refine wp_region_lit ?_
            refine s1 hK rfl rfl rfl rfl fun a hK => ?_
            refine wpList_nil (nm_then ?_)
            refine wp_ret (rt_then ?_)
            have h := Option.some.inj h
            subst h
            exact finR1 hK rfl (RV.tmp hK rfl) ⟨rfl, hM.ext⟩
          · have h := bif_f hb150 h
            refine wp_skip (nm_then ?_)
            refine wp_seq ?_
            refine wp_seq ?_
            refine wp_region_lit ?_
            iterate 3 (refine s1 hK rfl rfl rfl rfl fun a hK => ?_)
            refine wpList_nil (nm_then ?_)
            refine c_cond (b := x146 != x139.1) hK rfl (fun hb151 => ?_) (fun hb151 => ?_)
            · have h := bif_t hb151 h
              refine wp_seq ?_
              refine wp_region_lit ?_
              refine s1 hK rfl rfl rfl rfl fun a hK => ?_
              refine wpList_nil (nm_then ?_)
              refine wp_ret (rt_then ?_)
              have h := Option.some.inj h
              subst h
              exact finR1 hK rfl (RV.tmp hK rfl) ⟨rfl, hM.ext⟩
            · have h := bif_f hb151 h
              refine wp_skip (nm_then ?_)
              refine wp_seq ?_
              refine wp_region_lit ?_
              refine s_val hK rfl rfl rfl (r_ldB ta28 hM 0 hb15 0 hK rfl rfl rfl rfl rfl rfl) fun a hK => ?_
              obtain ⟨x152, hx153, h⟩ := obind_some h
              refine s_call hK Tryz.call18 rfl rfl rfl rfl rfl (c_laws_toRequest fu _ (show rd _ _ [.int .i64 (aR1.fWay), .int .i64 (aR1.fPallet.fW), .int .i64 (aR1.fPallet.fD), .int .i64 (aR1.fPallet.fH), .int .i64 (aR1.fPallet.fGram), .int .i64 (aR1.fClasses), v5, v7, .int .i64 (aR1.fMaster), v9] (aR1 : Request) from ⟨_, _, _, _, _, _, rfl, rfl, (Enc.rd_agr hf11 (hM.a00 (Enc.rd_lt hf11))), (Enc.rd_agr hf12 (hM.a00 (Enc.rd_lt hf12))), (Enc.rd_agr hf13 (hM.a00 (Enc.rd_lt hf13)))⟩) hx153) fun e154 w155 hR => ?_
              obtain ⟨cs160, F156, rfl, hE, hf157, hfr158⟩ := hR
              refine ⟨_, rfl, fun a hK => ?_⟩
              have hM := hM.new hE F156 (fun b hb => ⟨hfr158 b hb, Enc.rd_lt (Enc.ow_rd hf157) b hb⟩) (Enc.ow_nd hf157)
              obtain ⟨v161, F162, v164, F165, v167, F168, rfl, rfl, hf163, hf166, hf169, _⟩ := hf157
              have hM := hM.split2
              have hM := hM.split2at1
              obtain ⟨x170, hx171, h⟩ := obind_some h
              refine s_call hK Tryz.call24 rfl rfl rfl rfl rfl (c_impl_OneEach fu _ (show rd _ _ [.int .i64 (x152.fWay), .int .i64 (x152.fPallet.fW), .int .i64 (x152.fPallet.fD), .int .i64 (x152.fPallet.fH), .int .i64 (x152.fPallet.fGram), .int .i64 (x152.fClasses), v161, v164, .int .i64 (x152.fMaster), v167] (x152 : Request) from ⟨_, _, _, _, _, _, rfl, rfl, (Enc.rd_agr (Enc.ow_rd hf163) (hM.a 0 rfl)), (Enc.rd_agr (Enc.ow_rd hf166) (hM.a 1 rfl)), (Enc.rd_agr (Enc.ow_rd hf169) (hM.a 2 rfl))⟩) hx171) fun e172 w173 hR => ?_
              obtain ⟨v178, F174, rfl, hE, hf175, hfr176⟩ := hR
              refine ⟨_, rfl, fun a hK => ?_⟩
              have hM := hM.new hE F174 (fun b hb => ⟨hfr176 b hb, Enc.rd_lt (Enc.ow_rd hf175) b hb⟩) (Enc.ow_nd hf175)
              refine s1 hK rfl rfl rfl rfl fun a hK => ?_
              refine wpList_nil (nm_then ?_)
              refine wp_seq ?_
              refine wp_seq ?_
              refine wp_region_lit ?_
              iterate 2 (refine s1 hK rfl rfl rfl rfl fun a hK => ?_)
              obtain ⟨x179, hx180, h⟩ := obind_some h
              refine s_call hK Tryz.call25 rfl rfl rfl rfl rfl (c_laws_eqIntSS fu _ _ (Enc.rd_agr (Enc.ow_rd hf175) (hM.a 0 rfl)) (Enc.rd_agr (Enc.ow_rd hf45) (hM.a 5 rfl)) hx180) fun e181 w182 hR => ?_
              obtain ⟨rfl, hE⟩ := hR
              refine ⟨_, rfl, fun a hK => ?_⟩
              have hM := hM.step hE
              refine s1 hK rfl rfl rfl rfl fun a hK => ?_
              refine wpList_nil (nm_then ?_)
              refine c_cond (b := !x179) hK rfl (fun hb183 => ?_) (fun hb183 => ?_)
              · have h := bif_t hb183 h
                refine wp_seq ?_
                refine wp_region_lit ?_
                refine s1 hK rfl rfl rfl rfl fun a hK => ?_
                refine wpList_nil (nm_then ?_)
                refine wp_ret (rt_then ?_)
                have h := Option.some.inj h
                subst h
                exact finR1 hK rfl (RV.tmp hK rfl) ⟨rfl, hM.ext⟩
              · have h := bif_f hb183 h
                refine wp_skip (nm_then ?_)
                refine wp_seq ?_
                refine wp_region_lit ?_
                refine s1 hK rfl rfl rfl rfl fun a hK => ?_
                refine wpList_nil (nm_then ?_)
                refine wp_seq ?_
                refine wp_region_lit ?_
                iterate 2 (refine s1 hK rfl rfl rfl rfl fun a hK => ?_)
                obtain ⟨x184, hx185, h⟩ := obind_some h
                refine s_call hK Tryz.call28 rfl rfl rfl rfl rfl (c_laws_heldIntSS fu _ _ (Enc.rd_agr (Enc.ow_rd hf143) (hM.a 6 rfl)) hx185) fun e186 w187 hR => ?_
                obtain ⟨rfl, hE⟩ := hR
                refine ⟨_, rfl, fun a hK => ?_⟩
                have hM := hM.step hE
                refine s1 hK rfl rfl rfl rfl fun a hK => ?_
                have hK := hK.keep [8, 9] rfl
                refine wpList_nil (nm_then ?_)
                refine wp_seq ?_
                refine wp_seq ?_
                refine wp_region_lit ?_
                iterate 2 (refine s1 hK rfl rfl rfl rfl fun a hK => ?_)
                refine wpList_nil (nm_then ?_)
                refine c_cond (b := decide (x184 < 0)) hK rfl (fun hb188 => ?_) (fun hb188 => ?_)
                · have h := bif_t hb188 h
                  refine wp_seq ?_
                  refine wp_region_lit ?_
                  refine s1 hK rfl rfl rfl rfl fun a hK => ?_
                  refine wpList_nil (nm_then ?_)
                  refine wp_ret (rt_then ?_)
                  have h := Option.some.inj h
                  subst h
                  exact finR1 hK rfl (RV.tmp hK rfl) ⟨rfl, hM.ext⟩
                · have h := bif_f hb188 h
                  refine wp_skip (nm_then ?_)
                  refine wp_seq ?_
                  refine wp_seq ?_
                  refine wp_region_lit ?_
                  iterate 3 (refine s1 hK rfl rfl rfl rfl fun a hK => ?_)
                  refine wpList_nil (nm_then ?_)
                  refine c_cond (b := x184 != x139.1) hK rfl (fun hb189 => ?_) (fun hb189 => ?_)
                  · have h := bif_t hb189 h
                    refine wp_seq ?_
                    refine wp_region_lit ?_
                    refine s1 hK rfl rfl rfl rfl fun a hK => ?_
                    refine wpList_nil (nm_then ?_)
                    refine wp_ret (rt_then ?_)
                    have h := Option.some.inj h
                    subst h
                    exact finR1 hK rfl (RV.tmp hK rfl) ⟨rfl, hM.ext⟩
                  · have h := bif_f hb189 h
                    refine wp_skip (nm_then ?_)
                    refine wp_seq ?_
                    refine wp_region_lit ?_
                    refine s1 hK rfl rfl rfl rfl fun a hK => ?_
                    refine wpList_nil (nm_then ?_)
                    refine wp_ret ?_
                    have h := Option.some.inj h
                    subst h
                    exact finR1 hK rfl (RV.tmp hK rfl) ⟨rfl, hM.ext⟩
        · refine wp_seq ?_
          refine wp_region_lit ?_
          iterate 3 (refine s1 hK rfl rfl rfl rfl fun a hK => ?_)
          refine bsplit (decide (x112.1 < 0)) (fun hb190 => ?_) (fun hb190 => ?_)
          · have h := bif_t hb190 h
            have hK := hK.re (d := 37) rfl (congrArg Value.bool hb190)
            refine sk hK rfl rfl rfl fun a hK => ?_
            refine sk hK rfl rfl rfl fun a hK => ?_
            refine sk hK rfl rfl rfl fun a hK => ?_
            refine sk hK rfl rfl rfl fun a hK => ?_
            refine s1 hK rfl rfl rfl rfl fun a hK => ?_
            refine wpList_nil (nm_then ?_)
            refine wp_cond_true (hK.ev rfl) ?_
            refine wp_seq ?_
            refine wp_region_lit ?_
            refine s1 hK rfl rfl rfl rfl fun a hK => ?_
            refine wpList_nil (nm_then ?_)
            refine wp_ret (rt_then ?_)
            have h := Option.some.inj h
            subst h
            exact finR1 hK rfl (RV.tmp hK rfl) ⟨rfl, hM.ext⟩
          · have h := bif_f hb190 h
            have hK := hK.re (d := 37) rfl (congrArg Value.bool hb190)
            iterate 2 (refine s1 hK rfl rfl rfl rfl fun a hK => ?_)
            obtain ⟨x191, hx192, h⟩ := obind_some h
            refine s_call hK Tryz.call25 rfl rfl rfl rfl rfl (c_laws_eqIntSS fu _ _ (Enc.rd_agr (Enc.ow_rd hf77) (hM.a 6 rfl)) (Enc.rd_agr (Enc.ow_rd hf45) (hM.a 8 rfl)) hx192) fun e193 w194 hR => ?_
            obtain ⟨rfl, hE⟩ := hR
            refine ⟨_, rfl, fun a hK => ?_⟩
            have hM := hM.step hE
            iterate 2 (refine s1 hK rfl rfl rfl rfl fun a hK => ?_)
            refine wpList_nil (nm_then ?_)
            refine c_cond (b := !x191) hK rfl (fun hb195 => ?_) (fun hb195 => ?_)
            · have h := bif_t hb195 h
              refine wp_seq ?_
              refine wp_region_lit ?_
              refine s1 hK rfl rfl rfl rfl fun a hK => ?_
              refine wpList_nil (nm_then ?_)
              refine wp_ret (rt_then ?_)
              have h := Option.some.inj h
              subst h
              exact finR1 hK rfl (RV.tmp hK rfl) ⟨rfl, hM.ext⟩
            · have h := bif_f hb195 h
              refine wp_skip (nm_then ?_)
              exact ⟨hK.keep [1, 4, 6] rfl, hM.sel [12, 8, 6] rfl (by decide), h⟩

end Go.Proofs.YthjbcfefkdbgoaaGreat
