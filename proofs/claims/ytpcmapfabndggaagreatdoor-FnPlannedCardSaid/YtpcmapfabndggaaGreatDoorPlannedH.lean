/- FnPlanned: the row's.. -/
import Derived.Test.YtpcmapfabndggaaGreatDoorPlannedTy
import Derived.Test.YtpcmapfabndggaaGreatDoorPlannedP1
import Derived.Test.YtpcmapfabndggaaGreatDoorPlannedW1
import Derived.Test.YtpcmapfabndggaaGreatDoorTie
import Derived.Test.YtpcmapfabndggaaGreatDoorCards
import Derived.LaidMore
import Derived.OpenShut
import Derived.Stop.Joined
import Derived.Stop.LaidErr
import Derived.SevenTiedAt
namespace Go.Proofs.YtpcmapfabndggaaGreatDoor
open Go Go.RowKit Go.ChangeShapes Go.WideShapes Go.ChangeAt
open Enc (rd ow)
open Arg (argv)
open Ret (retv)
open Wf (wf)
theorem gTab : Tryz.prog.globalNamed "internal/strconv.uint64pow10" = some 0 := by kernel_rfl
theorem gTabT : (Tryz.prog.globals[0]?).map (·.type)=some 240 := by kernel_rfl
theorem tabE : (Rows.laid_internal_strconv_uint64pow10 : DataW Unit)=Lib.tabData .u64 Lib.pow10Tab := by kernel_rfl
theorem of_laid {W : World} (h : laidMetH Tryz.prog Rows.fnPlannedRow.laid W) : Tb Tryz.prog W := by
  rw [MakeChecks.laidMetH_plain _ _ _ (by kernel_rfl)] at h
  have h2 : laidMet Tryz.prog (("internal/strconv.uint64pow10", Rows.laid_internal_strconv_uint64pow10) :: Rows.fnPlannedRow.laid.drop 3) W := (laidMet.tail (laidMet.tail h))
  rw [tabE] at h2
  exact ⟨⟨0, gTab⟩, Lib.tabIs_of_head gTab gTabT Tryz.underlying240 Tryz.underlying179 (by kernel_rfl) (by kernel_rfl) h2⟩
theorem door_met (os : Os) (args : Array Value) : laidMetH Tryz.prog Rows.fnPlannedRow.laid ((World.doorLaid Tryz.prog 400 os).forCall (λ_ _ => 0) ⟨#[], args, []⟩).memory :=
  laidMetH_of_parts3 (fuel := 8) (laidMet_of_run' 8 (by kernel_rfl) (by kernel_rfl)) (by kernel_rfl) (by kernel_rfl)
set_option maxRecDepth 100000 in
theorem fnPlanned_lifted (os : Os) (started : os.Started) (H : Type) (enc : TypeId×Value→H) :
    ReturnsInHanded {} Tryz.checked os 3 .any (λw args => (Rows.fnPlannedSpec.pre enc Tryz.prog Tryz.f3 [] false w args∧laidMetH Tryz.prog Rows.fnPlannedRow.laid w)∧sizedMet enc Tryz.prog Tryz.f3 (OpenSpec.ofChange Rows.fnPlannedSpec) false w args) (Rows.fnPlannedSpec.post enc Tryz.prog Tryz.f3 false true false false) := by
  refine returnsInHanded_of_change_and (C := Tryz.checked) (X := λw _ => laidMetH Tryz.prog Rows.fnPlannedRow.laid w) (λ_ _ _ hh h => h.of_heap hh) own started (by kernel_rfl) Tryz.func3
    (ChangeSpec.witness_shaped (enc := enc) (C := Tryz.checked) (os := os) (X := λw _ => laidMetH Tryz.prog Rows.fnPlannedRow.laid w) false (World.doorLaid Tryz.prog 400 os) #[.slice none 0 0] 8 rfl (World.shaped_of_RefB (by kernel_rfl) (by kernel_rfl)) (by kernel_rfl) (by kernel_rfl) (by kernel_rfl) (door_met os _)) ?_
  intro W base args ds gs before hval0 hW _ _ hL _
  have hval : ∀ (j : Nat) t v, Tryz.f3.params[j]? = some t→args[j]? = some v→Value.okWide Tryz.prog W .any base t v := hval0
  have hW' := hW
  obtain ⟨p, q, hA0, hV, rfl, hfz, hnd⟩ := hW
  have hA : DataW.TrodAll enc Tryz.prog W 0 (λ_ => true) true Tryz.f3.params.toList args.toList ds p := hA0
  rw [Tryz.params3] at hA hval
  have hA1 := hA
  obtain ⟨v0, vs0, d0, ds0, p0, q0, hargs, rfl, rfl, h0, r0⟩ := trodAll_cons hA1
  obtain ⟨rfl, rfl, rfl⟩ := trodAll_nil r0
  obtain rfl : args=#[v0] := by cases args; simp_all
  obtain ⟨rfl, rfl⟩ := trodVars_none hV
  obtain ⟨x0, F0, hp0, w0⟩ := Q9c Tryz.underlying22 Jl3 (hval 0 22 v0 rfl rfl) h0
  obtain ⟨fu, hpure⟩ := Q1r x0 w0
  simp only [List.append_nil] at hW'
  refine (Qy0 fu (of_laid hL) x0 hp0 hpure).mono λe W' ⟨he, hE⟩ => ?_
  subst he
  have hT : ∀ t∈([22] : List TypeId), Tryz.prog.readableRec t=true∧t<Tryz.prog.types.size := by
    intro t ht
    simp only [List.mem_cons, List.not_mem_nil, or_false] at ht
    subst ht; exact ⟨by kernel_rfl, of_decide_eq_true (by kernel_rfl)⟩
  exact ⟨_, rfl, Jds (pv := []) hW' (λ_ _ _ => trodAll_cons_mk (shut_bool Tryz.underlying4 _) trodAll_mk0)
    (λsp hs => Q4s Q9y hE.below hT hA (λx hx => hW'.lt x (by simpa using hx)) (λx hx => hs x (by simpa using hx))) (λ_ _ => rfl) (by simp) hE.below (ok_one (by kernel_rfl) rfl (okWide_bool_mk Tryz.underlying4 _))⟩

theorem Q0t : ((Rows.fnPlannedRow.inPlace==Tryz.prog.inPlace 3)&&(Rows.fnPlannedRow.unfollowed==Tryz.prog.unfollowed 3)&&(Rows.fnPlannedRow.recurses==Tryz.prog.recurses 3)&&(Rows.fnPlannedRow.named==Tryz.prog.varsNamed 3))=true := by kernel_rfl
set_option maxRecDepth 100000 in
theorem Qzl : joinedFacts Tryz.prog 3 Tryz.f3 Rows.fnPlannedSpec Rows.fnPlannedRow=true := by
  have hs := Q0t
  simp only [Bool.and_eq_true] at hs
  obtain ⟨⟨⟨s1, s2⟩, s3⟩, s4⟩ := hs
  simp only [joinedFacts, Bool.and_eq_true]
  repeat' apply And.intro
  all_goals first | with_reducible exact Q9y | with_reducible exact Jji | with_reducible exact Jf9 | with_reducible exact Jli | with_reducible exact s1 | with_reducible exact s2 | with_reducible exact s3 | with_reducible exact s4 | with_reducible exact Jhn Ji3 (by kernel_rfl) | with_reducible exact Jb8 Jh4 (by kernel_rfl) | with_reducible exact Jb8 Jfk (by kernel_rfl) | kernel_rfl
theorem Qwh : Tryz.prog.funcNamed Rows.fnPlannedRow.func=some 3 := by kernel_rfl

theorem fnPlanned_holds : Rows.FnPlannedSaid :=
  OpenClaim.holds_of_wide 3 Tryz.f3 rfl rfl rfl rfl rfl rfl rfl ⟨rfl, rfl, rfl, rfl, rfl⟩ rfl rfl rfl rfl rfl Qwh Tryz.func3 Qzl
    (of_decide_eq_true (by kernel_rfl)) (by unfold Func.isWrapper; first | (rw [if_pos (by decide +kernel)]; kernel_rfl) | (rw [if_neg (by decide +kernel)]; exact ⟨rfl, rfl⟩))
    (λos started H enc _ => fnPlanned_lifted os started H enc)
theorem Jcc : Tryz.prog.wantsStandIn 22=false := by kernel_rfl
theorem fnPlanned_card : Rows.FnPlannedCardSaid :=
  Claim7.holds_tied_plain_at .later [] [.data, .data, .data] true (true, "5a437f63bff02dec8dd1d2f9ed1147ee18cb6344cc57df7621b020c39d6f4360") true
    fnPlanned_holds (λ_ h => by cases h) (by kernel_rfl) (λ_ h => by cases h) fnPlanned_row_tie rfl ⟨rfl, rfl⟩ (by kernel_rfl) rfl
    (λf fn hf hfn => by
      obtain rfl : f=3 := (Option.some.inj (Qwh.symm.trans hf)).symm
      obtain rfl : fn=Tryz.f3 := (Option.some.inj (Tryz.func3.symm.trans hfn)).symm
      exact ⟨by kernel_rfl, λj t ht => by
        rw [Tryz.params3] at ht
        have h3 : t∈([22] : List TypeId) := by
          have := Array.mem_of_getElem? ht
          simpa using this
        rcases (by simpa using h3 : t=22) with rfl
        all_goals first | exact Jcc⟩)
    (by kernel_rfl)

end Go.Proofs.YtpcmapfabndggaaGreatDoor
