/- FnRenamed: the row's step: at every input the law returns true, and what it was given reads as before; and the card that ties the tables that the row lists to the program's text. Printed by shut.py. -/
import Derived.Test.YthkaklkinepfkaaGreatDoorRenamedTy
import Derived.Test.YthkaklkinepfkaaGreatDoorRenamedP1
import Derived.Test.YthkaklkinepfkaaGreatDoorRenamedW1
import Derived.Test.YthkaklkinepfkaaGreatDoorTie
import Derived.Test.YthkaklkinepfkaaGreatDoorCards
import Derived.LaidMore
import Derived.OpenShut
import Derived.Stop.Joined
import Derived.Stop.LaidErr
import Derived.SevenTiedAt
namespace Go.Proofs.YthkaklkinepfkaaGreatDoor
open Go Go.RowKit Go.ChangeShapes Go.WideShapes Go.ChangeAt
open Enc (rd ow)
open Arg (argv)
open Ret (retv)
open Wf (wf)
theorem gTab : Tryz.prog.globalNamed "internal/strconv.uint64pow10" = some 3 := by kernel_rfl
theorem gTabT : (Tryz.prog.globals[3]?).map (·.type) = some 275 := by kernel_rfl
theorem tabE : (Rows.laid_internal_strconv_uint64pow10 : DataW Unit) = Lib.tabData .u64 Lib.pow10Tab := by kernel_rfl
theorem eStar : "*" ++ "errors.errorString" = "*errors.errorString" := by decide
theorem eRow (u : TypeId) (h : Tryz.prog.typeName? 3 u = some "*errors.errorString") : u = 278 :=
  typeName_ptr_named (nm := "errors.errorString") (by rw [eStar]; kernel_rfl) (by kernel_rfl) (by decide) u (by rw [eStar]; exact h)
theorem eCells280 : Tryz.prog.cellsOf 280 = 1 := by kernel_rfl
theorem eCells9 : Tryz.prog.cellsOf 9 = 1 := by kernel_rfl
theorem gErrS : Tryz.prog.globalNamed "strconv.ErrSyntax" = some 1 := by kernel_rfl
theorem gErrST : (Tryz.prog.globals[1]?).map (·.type) = some 151 := by kernel_rfl
theorem gErrR : Tryz.prog.globalNamed "strconv.ErrRange" = some 2 := by kernel_rfl
theorem gErrRT : (Tryz.prog.globals[2]?).map (·.type) = some 151 := by kernel_rfl
theorem of_laid {W : World} (h : laidMetH Tryz.prog Rows.fnRenamedRow.laid W) : Te Tryz.prog W := by
  rw [MakeChecks.laidMetH_plain _ _ _ (by kernel_rfl)] at h
  have h2 : laidMet Tryz.prog (("internal/strconv.uint64pow10", Rows.laid_internal_strconv_uint64pow10) :: Rows.fnRenamedRow.laid.drop 3) W := (laidMet.tail (laidMet.tail h))
  rw [tabE] at h2
  have h3 : laidMet Tryz.prog (("strconv.ErrSyntax", Rows.laid_strconv_ErrSyntax) :: Rows.fnRenamedRow.laid.drop 5) W := (laidMet.tail (laidMet.tail (laidMet.tail (laidMet.tail h))))
  have h4 : laidMet Tryz.prog (("strconv.ErrRange", Rows.laid_strconv_ErrRange) :: Rows.fnRenamedRow.laid.drop 4) W := (laidMet.tail (laidMet.tail (laidMet.tail h)))
  obtain ⟨a0, s0, hv0, _⟩ := laid_sentinel h3 gErrS gErrST Tryz.underlying151 eRow Tryz.underlying278 Tryz.underlying280 rfl rfl Tryz.underlying9 eCells280 eCells9
  obtain ⟨a1, s1, hv1, _⟩ := laid_sentinel h4 gErrR gErrRT Tryz.underlying151 eRow Tryz.underlying278 Tryz.underlying280 rfl rfl Tryz.underlying9 eCells280 eCells9
  exact ⟨⟨⟨3, gTab⟩, Lib.tabIs_of_head gTab gTabT Tryz.underlying275 Tryz.underlying219 (by kernel_rfl) (by kernel_rfl) h2⟩, ⟨_, _, _, gErrS, hv0⟩, ⟨_, _, _, gErrR, hv1⟩⟩
theorem door_met (os : Os) (args : Array Value) : laidMetH Tryz.prog Rows.fnRenamedRow.laid ((World.doorLaid Tryz.prog 400 os).forCall (fun _ _ => 0) ⟨#[], args, []⟩).memory :=
  laidMetH_of_parts3 (fuel := 8) (laidMet_of_run' 8 (by kernel_rfl) (by kernel_rfl)) (by kernel_rfl) (by kernel_rfl)
set_option maxRecDepth 100000 in
theorem fnRenamed_lifted (os : Os) (started : os.Started) (H : Type) (enc : TypeId × Value → H) :
    ReturnsInHanded {} Tryz.checked os 7 .any (fun w args => (Rows.fnRenamedSpec.pre enc Tryz.prog Tryz.f7 [] false w args ∧ laidMetH Tryz.prog Rows.fnRenamedRow.laid w) ∧ sizedMet enc Tryz.prog Tryz.f7 (OpenSpec.ofChange Rows.fnRenamedSpec) false w args) (Rows.fnRenamedSpec.post enc Tryz.prog Tryz.f7 false true false false) := by
  refine returnsInHanded_of_change_and (C := Tryz.checked) (X := fun w _ => laidMetH Tryz.prog Rows.fnRenamedRow.laid w) (fun _ _ _ hh h => h.of_heap hh) own started (by kernel_rfl) Tryz.func7
    (ChangeSpec.witness_shaped (enc := enc) (C := Tryz.checked) (os := os) (X := fun w _ => laidMetH Tryz.prog Rows.fnRenamedRow.laid w) false (World.doorLaid Tryz.prog 400 os) #[.slice none 0 0] 8 rfl (World.shaped_of_RefB (by kernel_rfl) (by kernel_rfl)) (by kernel_rfl) (by kernel_rfl) (by kernel_rfl) (door_met os _)) ?_
  intro W base args ds gs before hval0 hW _ _ hL _
  have hval : ∀ (j : Nat) t v, Tryz.f7.params[j]? = some t → args[j]? = some v → Value.okWide Tryz.prog W .any base t v := hval0
  have hW' := hW
  obtain ⟨p, q, hA0, hV, rfl, hfz, hnd⟩ := hW
  have hA : DataW.TrodAll enc Tryz.prog W 0 (fun _ => true) true Tryz.f7.params.toList args.toList ds p := hA0
  rw [Tryz.params7] at hA hval
  have hA1 := hA
  obtain ⟨v0, vs0, d0, ds0, p0, q0, hargs, rfl, rfl, h0, r0⟩ := trodAll_cons hA1
  obtain ⟨rfl, rfl, rfl⟩ := trodAll_nil r0
  obtain rfl : args = #[v0] := by cases args; simp_all
  obtain ⟨rfl, rfl⟩ := trodVars_none hV
  obtain ⟨x0, F0, hp0, w0⟩ := arg_slice Tryz.underlying22 tr22 (hval 0 22 v0 rfl rfl) h0
  obtain ⟨fu, hpure⟩ := fnRenamed_pure x0 w0
  simp only [List.append_nil] at hW'
  refine (c_laws_FnRenamed fu (of_laid hL) x0 hp0 hpure).mono fun e W' ⟨he, hE⟩ => ?_
  subst he
  have hT : ∀ t ∈ ([22] : List TypeId), Tryz.prog.readableRec t = true ∧ t < Tryz.prog.types.size := by
    intro t ht
    simp only [List.mem_cons, List.not_mem_nil, or_false] at ht
    subst ht; exact ⟨by kernel_rfl, of_decide_eq_true (by kernel_rfl)⟩
  exact ⟨_, rfl, post_new (pv := []) hW' (fun _ _ _ => trodAll_cons_mk (shut_bool Tryz.underlying4 _) trodAll_mk0)
    (fun sp hs => args_stay laidOut hE.below hT hA (fun x hx => hW'.lt x (by simpa using hx)) (fun x hx => hs x (by simpa using hx))) (fun _ _ => rfl) (by simp) hE.below (ok_one (by kernel_rfl) rfl (okWide_bool_mk Tryz.underlying4 _))⟩

theorem fnRenamed_shape : ((Rows.fnRenamedRow.inPlace == Tryz.prog.inPlace 7) && (Rows.fnRenamedRow.unfollowed == Tryz.prog.unfollowed 7) && (Rows.fnRenamedRow.recurses == Tryz.prog.recurses 7) && (Rows.fnRenamedRow.named == Tryz.prog.varsNamed 7)) = true := by kernel_rfl
set_option maxRecDepth 100000 in
theorem fnRenamed_closed : joinedFacts Tryz.prog 7 Tryz.f7 Rows.fnRenamedSpec Rows.fnRenamedRow = true := by
  have hs := fnRenamed_shape
  simp only [Bool.and_eq_true] at hs
  obtain ⟨⟨⟨s1, s2⟩, s3⟩, s4⟩ := hs
  simp only [joinedFacts, Bool.and_eq_true]
  repeat' apply And.intro
  all_goals first | with_reducible exact laidOut | with_reducible exact k_maps | with_reducible exact k_stops | with_reducible exact k_may | with_reducible exact s1 | with_reducible exact s2 | with_reducible exact s3 | with_reducible exact s4 | with_reducible exact beq_of k_make (by kernel_rfl) | with_reducible exact beq_of' k_keys (by kernel_rfl) | with_reducible exact beq_of' k_lifts (by kernel_rfl) | kernel_rfl
theorem fnRenamed_func : Tryz.prog.funcNamed Rows.fnRenamedRow.func = some 7 := by kernel_rfl

theorem fnRenamed_holds : Rows.FnRenamedSaid :=
  OpenClaim.holds_of_wide 7 Tryz.f7 rfl rfl rfl rfl rfl rfl rfl ⟨rfl, rfl, rfl, rfl, rfl⟩ rfl rfl rfl rfl rfl fnRenamed_func Tryz.func7 fnRenamed_closed
    (of_decide_eq_true (by kernel_rfl)) (by unfold Func.isWrapper; first | (rw [if_pos (by decide +kernel)]; kernel_rfl) | (rw [if_neg (by decide +kernel)]; exact ⟨rfl, rfl⟩))
    (fun os started H enc _ => fnRenamed_lifted os started H enc)
theorem noStand22 : Tryz.prog.wantsStandIn 22 = false := by kernel_rfl
theorem fnRenamed_card : Rows.FnRenamedCardSaid :=
  Claim7.holds_tied_plain_at .later [] [.data, .data, .data, .sentinel, .sentinel] true (true, "52d2b5391526eefbc094e66f2712fc157c9d49953a58bb81e41e9222856698b5") true
    fnRenamed_holds (fun _ h => by cases h) (by kernel_rfl) (fun _ h => by cases h) fnRenamed_row_tie rfl ⟨rfl, rfl⟩ (by kernel_rfl) rfl
    (fun f fn hf hfn => by
      obtain rfl : f = 7 := (Option.some.inj (fnRenamed_func.symm.trans hf)).symm
      obtain rfl : fn = Tryz.f7 := (Option.some.inj (Tryz.func7.symm.trans hfn)).symm
      exact ⟨by kernel_rfl, fun j t ht => by
        rw [Tryz.params7] at ht
        have h3 : t ∈ ([22] : List TypeId) := by
          have := Array.mem_of_getElem? ht
          simpa using this
        rcases (by simpa using h3 : t = 22) with rfl
        all_goals first | exact noStand22⟩)
    (by kernel_rfl)

end Go.Proofs.YthkaklkinepfkaaGreatDoor
