/- FnExactPackText: the.. -/
import Derived.Test.YtpcmapfabndggabGreatDoorExactPackTextTy
import Derived.Test.YtpcmapfabndggabGreatDoorExactPackTextP1
import Derived.Test.YtpcmapfabndggabGreatDoorExactPackTextW1
import Derived.Test.YtpcmapfabndggabGreatDoorTie
import Derived.Test.YtpcmapfabndggabGreatDoorCards
import Derived.LaidMore
import Derived.OpenShut
import Derived.Stop.Joined
import Derived.Stop.LaidErr
import Derived.SevenTiedAt
namespace Go.Proofs.YtpcmapfabndggabGreatDoor
open Go Go.RowKit Go.ChangeShapes Go.WideShapes Go.ChangeAt
open Enc (rd ow)
open Arg (argv)
open Ret (retv)
open Wf (wf)
theorem gTab : Tryz.prog.globalNamed "internal/strconv.uint64pow10" = some 2 := by kernel_rfl
theorem gTabT : (Tryz.prog.globals[2]?).map (·.type)=some 234 := by kernel_rfl
theorem tabE : (Rows.laid_internal_strconv_uint64pow10 : DataW Unit)=Lib.tabData .u64 Lib.pow10Tab := by kernel_rfl
theorem Jei : "*" ++ "errors.errorString" = "*errors.errorString" := by decide
theorem Ji0 (u : TypeId) (h : Tryz.prog.typeName? 3 u = some "*errors.errorString") : u = 238 :=
  typeName_ptr_named (nm := "errors.errorString") (by rw [Jei]; kernel_rfl) (by kernel_rfl) (by decide) u (by rw [Jei]; exact h)
theorem Q2y : Tryz.prog.cellsOf 240=1 := by kernel_rfl
theorem Q7e : Tryz.prog.cellsOf 9=1 := by kernel_rfl
theorem Jfy : Tryz.prog.globalNamed "strconv.ErrSyntax" = some 0 := by kernel_rfl
theorem Jen : (Tryz.prog.globals[0]?).map (·.type)=some 108 := by kernel_rfl
theorem Jeh : Tryz.prog.globalNamed "strconv.ErrRange" = some 1 := by kernel_rfl
theorem Jew : (Tryz.prog.globals[1]?).map (·.type)=some 108 := by kernel_rfl
theorem of_laid {W : World} (h : laidMetH Tryz.prog Rows.fnExactPackTextRow.laid W) : Te Tryz.prog W := by
  rw [MakeChecks.laidMetH_plain _ _ _ (by kernel_rfl)] at h
  have h2 : laidMet Tryz.prog (("internal/strconv.uint64pow10", Rows.laid_internal_strconv_uint64pow10) :: Rows.fnExactPackTextRow.laid.drop 3) W := (laidMet.tail (laidMet.tail h))
  rw [tabE] at h2
  have h3 : laidMet Tryz.prog (("strconv.ErrSyntax", Rows.laid_strconv_ErrSyntax) :: Rows.fnExactPackTextRow.laid.drop 5) W := (laidMet.tail (laidMet.tail (laidMet.tail (laidMet.tail h))))
  have h4 : laidMet Tryz.prog (("strconv.ErrRange", Rows.laid_strconv_ErrRange) :: Rows.fnExactPackTextRow.laid.drop 4) W := (laidMet.tail (laidMet.tail (laidMet.tail h)))
  obtain ⟨a0, s0, hv0, _⟩ := laid_sentinel h3 Jfy Jen Tryz.underlying108 Ji0 Tryz.underlying238 Tryz.underlying240 rfl rfl Tryz.underlying9 Q2y Q7e
  obtain ⟨a1, s1, hv1, _⟩ := laid_sentinel h4 Jeh Jew Tryz.underlying108 Ji0 Tryz.underlying238 Tryz.underlying240 rfl rfl Tryz.underlying9 Q2y Q7e
  exact ⟨⟨⟨2, gTab⟩, Lib.tabIs_of_head gTab gTabT Tryz.underlying234 Tryz.underlying201 (by kernel_rfl) (by kernel_rfl) h2⟩, ⟨_, _, _, Jfy, hv0⟩, ⟨_, _, _, Jeh, hv1⟩⟩
theorem door_met (os : Os) (args : Array Value) : laidMetH Tryz.prog Rows.fnExactPackTextRow.laid ((World.doorLaid Tryz.prog 400 os).forCall (λ_ _ => 0) ⟨#[], args, []⟩).memory :=
  laidMetH_of_parts3 (fuel := 8) (laidMet_of_run' 8 (by kernel_rfl) (by kernel_rfl)) (by kernel_rfl) (by kernel_rfl)
set_option maxRecDepth 100000 in
theorem fnExactPackText_lifted (os : Os) (started : os.Started) (H : Type) (enc : TypeId×Value→H) :
    ReturnsInHanded {} Tryz.checked os 3 .any (λw args => (Rows.fnExactPackTextSpec.pre enc Tryz.prog Tryz.f3 [] false w args∧laidMetH Tryz.prog Rows.fnExactPackTextRow.laid w)∧sizedMet enc Tryz.prog Tryz.f3 (OpenSpec.ofChange Rows.fnExactPackTextSpec) false w args) (Rows.fnExactPackTextSpec.post enc Tryz.prog Tryz.f3 false true false false) := by
  refine returnsInHanded_of_change_and (C := Tryz.checked) (X := λw _ => laidMetH Tryz.prog Rows.fnExactPackTextRow.laid w) (λ_ _ _ hh h => h.of_heap hh) own started (by kernel_rfl) Tryz.func3
    (ChangeSpec.witness_shaped (enc := enc) (C := Tryz.checked) (os := os) (X := λw _ => laidMetH Tryz.prog Rows.fnExactPackTextRow.laid w) false (World.doorLaid Tryz.prog 400 os) #[.string ⟨#[]⟩] 8 rfl (World.shaped_of_RefB (by kernel_rfl) (by kernel_rfl)) (by kernel_rfl) (by kernel_rfl) (by kernel_rfl) (door_met os _)) ?_
  intro W base args ds gs before hval0 hW _ _ hL _
  have hval : ∀ (j : Nat) t v, Tryz.f3.params[j]? = some t→args[j]? = some v→Value.okWide Tryz.prog W .any base t v := hval0
  have hW' := hW
  obtain ⟨p, q, hA0, hV, rfl, hfz, hnd⟩ := hW
  have hA : DataW.TrodAll enc Tryz.prog W 0 (λ_ => true) true Tryz.f3.params.toList args.toList ds p := hA0
  rw [Tryz.params3] at hA hval
  have hA1 := hA
  obtain ⟨v0, vs0, d0, ds0, p0, q0, hargs, rfl, rfl, h0, r0⟩ := trodAll_cons hA1
  obtain ⟨rfl, rfl, rfl⟩ := trodAll_nil r0
  obtain rfl : args=#[v0] := by cases args; simp_all
  obtain ⟨rfl, rfl⟩ := trodVars_none hV
  obtain ⟨x0, rfl, w0⟩ := Jdb Tryz.underlying9 (hval 0 9 v0 rfl rfl) h0
  obtain ⟨fu, hpure⟩ := Quf x0 w0
  simp only [List.append_nil] at hW'
  refine (Qti fu (of_laid hL) x0  hpure).mono λe W' ⟨he, hE⟩ => ?_
  subst he
  have hT : ∀ t∈([9] : List TypeId), Tryz.prog.readableRec t=true∧t<Tryz.prog.types.size := by
    intro t ht
    simp only [List.mem_cons, List.not_mem_nil, or_false] at ht
    subst ht; exact ⟨by kernel_rfl, of_decide_eq_true (by kernel_rfl)⟩
  exact ⟨_, rfl, Q9q (pv := []) hW' (λ_ _ _ => trodAll_cons_mk (shut_bool Tryz.underlying4 _) trodAll_mk0)
    (λsp hs => Q2t Q9a hE.below hT hA (λx hx => hW'.lt x (by simpa using hx)) (λx hx => hs x (by simpa using hx))) (λ_ _ => rfl) (by simp) hE.below (ok_one (by kernel_rfl) rfl (okWide_bool_mk Tryz.underlying4 _))⟩

theorem Qtv : ((Rows.fnExactPackTextRow.inPlace==Tryz.prog.inPlace 3)&&(Rows.fnExactPackTextRow.unfollowed==Tryz.prog.unfollowed 3)&&(Rows.fnExactPackTextRow.recurses==Tryz.prog.recurses 3)&&(Rows.fnExactPackTextRow.named==Tryz.prog.varsNamed 3))=true := by kernel_rfl
set_option maxRecDepth 100000 in
theorem Qtm : joinedFacts Tryz.prog 3 Tryz.f3 Rows.fnExactPackTextSpec Rows.fnExactPackTextRow=true := by
  have hs := Qtv
  simp only [Bool.and_eq_true] at hs
  obtain ⟨⟨⟨s1, s2⟩, s3⟩, s4⟩ := hs
  simp only [joinedFacts, Bool.and_eq_true]
  repeat' apply And.intro
  all_goals first | with_reducible exact Q9a | with_reducible exact Jeg | with_reducible exact Jc4 | with_reducible exact Jh9 | with_reducible exact s1 | with_reducible exact s2 | with_reducible exact s3 | with_reducible exact s4 | with_reducible exact Jet Je6 (by kernel_rfl) | with_reducible exact Q8f Jd1 (by kernel_rfl) | with_reducible exact Q8f Jbo (by kernel_rfl) | kernel_rfl
theorem Qrp : Tryz.prog.funcNamed Rows.fnExactPackTextRow.func=some 3 := by kernel_rfl

theorem fnExactPackText_holds : Rows.FnExactPackTextSaid :=
  OpenClaim.holds_of_wide 3 Tryz.f3 rfl rfl rfl rfl rfl rfl rfl ⟨rfl, rfl, rfl, rfl, rfl⟩ rfl rfl rfl rfl rfl Qrp Tryz.func3 Qtm
    (of_decide_eq_true (by kernel_rfl)) (by unfold Func.isWrapper; first | (rw [if_pos (by decide +kernel)]; kernel_rfl) | (rw [if_neg (by decide +kernel)]; exact ⟨rfl, rfl⟩))
    (λos started H enc _ => fnExactPackText_lifted os started H enc)
theorem Q9p : Tryz.prog.wantsStandIn 9=false := by kernel_rfl
theorem fnExactPackText_card : Rows.FnExactPackTextCardSaid :=
  Claim7.holds_tied_plain_at .later [] [.data, .data, .data, .sentinel, .sentinel] true (true, "0c9266068ea3edb5ceb609c213e05157429f2a41d9ab442077957726ae755cca") true
    fnExactPackText_holds (λ_ h => by cases h) (by kernel_rfl) (λ_ h => by cases h) fnExactPackText_row_tie rfl ⟨rfl, rfl⟩ (by kernel_rfl) rfl
    (λf fn hf hfn => by
      obtain rfl : f=3 := (Option.some.inj (Qrp.symm.trans hf)).symm
      obtain rfl : fn=Tryz.f3 := (Option.some.inj (Tryz.func3.symm.trans hfn)).symm
      exact ⟨by kernel_rfl, λj t ht => by
        rw [Tryz.params3] at ht
        have h3 : t∈([9] : List TypeId) := by
          have := Array.mem_of_getElem? ht
          simpa using this
        rcases (by simpa using h3 : t=9) with rfl
        all_goals first | exact Q9p⟩)
    (by kernel_rfl)

end Go.Proofs.YtpcmapfabndggabGreatDoor
