/- FnOneHolds: the row's step: at every input the law returns true, and what it was given reads as before. Printed by shut.py. -/
import Derived.Test.YthddjkokpfdbnaaGreatOneHoldsTy
import Derived.Test.YthddjkokpfdbnaaGreatOneHoldsP1
import Derived.Test.YthddjkokpfdbnaaGreatOneHoldsW1
namespace Go.Proofs.YthddjkokpfdbnaaGreat
open Go Go.RowKit Go.ChangeShapes Go.WideShapes Go.ChangeAt
open Enc (rd ow)
open Arg (argv)
open Ret (retv)
open Wf (wf)
set_option maxRecDepth 100000 in
theorem fnOneHolds_lifted (os : Os) (started : os.Started) (H : Type) (enc : TypeId × Value → H) :
    ReturnsInHanded {} Tryz.checked os 5 .any (Rows.fnOneHoldsSpec.pre6 enc Tryz.prog Tryz.f5 Rows.fnOneHoldsRow.domain false) (Rows.fnOneHoldsSpec.post enc Tryz.prog Tryz.f5 false true false false) := by
  refine returnsInHanded_of_change (C := Tryz.checked) own started (by kernel_rfl) Tryz.func5
    (ChangeSpec.witness6 (enc := enc) (C := Tryz.checked) false ⟨#[], #[.slice none 0 0], []⟩ 8 (by kernel_rfl) (by kernel_rfl) (by kernel_rfl) (by kernel_rfl)) ?_
  intro W base args ds gs before hval0 hW hcnd _
  have hval : ∀ (j : Nat) t v, Tryz.f5.params[j]? = some t → args[j]? = some v → Value.okWide Tryz.prog W .any base t v := hval0
  have hW' := hW
  obtain ⟨p, q, hA0, hV, rfl, hfz, hnd⟩ := hW
  have hA : DataW.TrodAll enc Tryz.prog W 0 (fun _ => true) true Tryz.f5.params.toList args.toList ds p := hA0
  rw [Tryz.params5] at hA hval
  have hA1 := hA
  obtain ⟨v0, vs0, d0, ds0, p0, q0, hargs, rfl, rfl, h0, r0⟩ := trodAll_cons hA1
  obtain ⟨rfl, rfl, rfl⟩ := trodAll_nil r0
  obtain rfl : args = #[v0] := by cases args; simp_all
  obtain ⟨rfl, rfl⟩ := trodVars_none hV
  obtain ⟨x0, F0, hp0, w0⟩ := arg_slice Tryz.underlying22 tr22 (hval 0 22 v0 rfl rfl) h0
  obtain ⟨fu, hpure⟩ := fnOneHolds_pure x0 w0
  simp only [List.append_nil] at hW'
  refine (c_laws_FnOneHolds fu x0 hp0 hpure).mono fun e W' ⟨he, hE⟩ => ?_
  subst he
  have hT : ∀ t ∈ ([22] : List TypeId), Tryz.prog.readableRec t = true ∧ t < Tryz.prog.types.size := by
    intro t ht
    simp only [List.mem_cons, List.not_mem_nil, or_false] at ht
    subst ht; exact ⟨by kernel_rfl, of_decide_eq_true (by kernel_rfl)⟩
  exact ⟨_, rfl, post_new (pv := []) hW' (fun _ _ _ => trodAll_cons_mk (shut_bool Tryz.underlying4 _) trodAll_mk0)
    (fun sp hs => args_stay laidOut hE.below hT hA (fun x hx => hW'.lt x (by simpa using hx)) (fun x hx => hs x (by simpa using hx))) (fun _ _ => rfl) (by simp) hE.below (ok_one (by kernel_rfl) rfl (okWide_bool_mk Tryz.underlying4 _))⟩

theorem fnOneHolds_shape : ((Rows.fnOneHoldsRow.inPlace == Tryz.prog.inPlace 5) && (Rows.fnOneHoldsRow.unfollowed == Tryz.prog.unfollowed 5) && (Rows.fnOneHoldsRow.recurses == Tryz.prog.recurses 5) && (Rows.fnOneHoldsRow.named == Tryz.prog.varsNamed 5)) = true := by kernel_rfl
set_option maxRecDepth 100000 in
theorem fnOneHolds_closed : joinedFacts Tryz.prog 5 Tryz.f5 Rows.fnOneHoldsSpec Rows.fnOneHoldsRow = true := by
  have hs := fnOneHolds_shape
  simp only [Bool.and_eq_true] at hs
  obtain ⟨⟨⟨s1, s2⟩, s3⟩, s4⟩ := hs
  simp only [joinedFacts, Bool.and_eq_true]
  repeat' apply And.intro
  all_goals first | with_reducible exact laidOut | with_reducible exact k_maps | with_reducible exact k_stops | with_reducible exact k_may | with_reducible exact s1 | with_reducible exact s2 | with_reducible exact s3 | with_reducible exact s4 | with_reducible exact beq_of k_make (by kernel_rfl) | with_reducible exact beq_of' k_keys (by kernel_rfl) | with_reducible exact beq_of' k_lifts (by kernel_rfl) | kernel_rfl
theorem fnOneHolds_func : Tryz.prog.funcNamed Rows.fnOneHoldsRow.func = some 5 := by kernel_rfl

theorem fnOneHolds_holds : Rows.FnOneHoldsSaid :=
  OpenClaim.holds_of_wide 5 Tryz.f5 rfl rfl rfl rfl rfl rfl rfl ⟨rfl, rfl, rfl, rfl, rfl⟩ rfl rfl rfl rfl rfl fnOneHolds_func Tryz.func5 fnOneHolds_closed
    (of_decide_eq_true (by kernel_rfl)) (by unfold Func.isWrapper; first | (rw [if_pos (by decide +kernel)]; kernel_rfl) | (rw [if_neg (by decide +kernel)]; exact ⟨rfl, rfl⟩))
    (fun os started H enc _ => fnOneHolds_lifted os started H enc)
end Go.Proofs.YthddjkokpfdbnaaGreat
