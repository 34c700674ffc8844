/- FnDepths: the row's step: at every input the law returns true, and what it was given reads as before. Printed by shut.py. -/
import Derived.Test.YthddjkokpfdbnaaDepthsTy
import Derived.Test.YthddjkokpfdbnaaDepthsP1
import Derived.Test.YthddjkokpfdbnaaDepthsW1
namespace Go.Proofs.Ythddjkokpfdbnaa
open Go Go.RowKit Go.ChangeShapes Go.WideShapes Go.ChangeAt
open Enc (rd ow)
open Arg (argv)
open Ret (retv)
open Wf (wf)
set_option maxRecDepth 100000 in
theorem fnDepths_lifted (os : Os) (started : os.Started) (H : Type) (enc : TypeId × Value → H) :
    ReturnsInHanded {} Try.checked os 3 .any (Rows.fnDepthsSpec.pre6 enc Try.prog Try.f3 Rows.fnDepthsRow.domain false) (Rows.fnDepthsSpec.post enc Try.prog Try.f3 false true false false) := by
  refine returnsInHanded_of_change (C := Try.checked) own started (by kernel_rfl) Try.func3
    (ChangeSpec.witness6 (enc := enc) (C := Try.checked) false ⟨#[], #[.slice none 0 0], []⟩ 8 (by kernel_rfl) (by kernel_rfl) (by kernel_rfl) (by kernel_rfl)) ?_
  intro W base args ds gs before hval0 hW hcnd _
  have hval : ∀ (j : Nat) t v, Try.f3.params[j]? = some t → args[j]? = some v → Value.okWide Try.prog W .any base t v := hval0
  have hW' := hW
  obtain ⟨p, q, hA0, hV, rfl, hfz, hnd⟩ := hW
  have hA : DataW.TrodAll enc Try.prog W 0 (fun _ => true) true Try.f3.params.toList args.toList ds p := hA0
  rw [Try.params3] at hA hval
  have hA1 := hA
  obtain ⟨v0, vs0, d0, ds0, p0, q0, hargs, rfl, rfl, h0, r0⟩ := trodAll_cons hA1
  obtain ⟨rfl, rfl, rfl⟩ := trodAll_nil r0
  obtain rfl : args = #[v0] := by cases args; simp_all
  obtain ⟨rfl, rfl⟩ := trodVars_none hV
  obtain ⟨x0, F0, hp0, w0⟩ := arg_slice Try.underlying22 tr22 (hval 0 22 v0 rfl rfl) h0
  obtain ⟨fu, hpure⟩ := fnDepths_pure x0 w0
  simp only [List.append_nil] at hW'
  refine (c_laws_FnDepths fu x0 hp0 hpure).mono fun e W' ⟨he, hE⟩ => ?_
  subst he
  have hT : ∀ t ∈ ([22] : List TypeId), Try.prog.readableRec t = true ∧ t < Try.prog.types.size := by
    intro t ht
    simp only [List.mem_cons, List.not_mem_nil, or_false] at ht
    subst ht; exact ⟨by kernel_rfl, of_decide_eq_true (by kernel_rfl)⟩
  exact ⟨_, rfl, post_new (pv := []) hW' (fun _ _ _ => trodAll_cons_mk (shut_bool Try.underlying4 _) trodAll_mk0)
    (fun sp hs => args_stay laidOut hE.below hT hA (fun x hx => hW'.lt x (by simpa using hx)) (fun x hx => hs x (by simpa using hx))) (fun _ _ => rfl) (by simp) hE.below (ok_one (by kernel_rfl) rfl (okWide_bool_mk Try.underlying4 _))⟩

theorem fnDepths_shape : ((Rows.fnDepthsRow.inPlace == Try.prog.inPlace 3) && (Rows.fnDepthsRow.unfollowed == Try.prog.unfollowed 3) && (Rows.fnDepthsRow.recurses == Try.prog.recurses 3) && (Rows.fnDepthsRow.named == Try.prog.varsNamed 3)) = true := by kernel_rfl
set_option maxRecDepth 100000 in
theorem fnDepths_closed : joinedFacts Try.prog 3 Try.f3 Rows.fnDepthsSpec Rows.fnDepthsRow = true := by
  have hs := fnDepths_shape
  simp only [Bool.and_eq_true] at hs
  obtain ⟨⟨⟨s1, s2⟩, s3⟩, s4⟩ := hs
  simp only [joinedFacts, Bool.and_eq_true]
  repeat' apply And.intro
  all_goals first | with_reducible exact laidOut | with_reducible exact k_maps | with_reducible exact k_stops | with_reducible exact k_may | with_reducible exact s1 | with_reducible exact s2 | with_reducible exact s3 | with_reducible exact s4 | with_reducible exact beq_of k_make (by kernel_rfl) | with_reducible exact beq_of' k_keys (by kernel_rfl) | with_reducible exact beq_of' k_lifts (by kernel_rfl) | kernel_rfl
theorem fnDepths_func : Try.prog.funcNamed Rows.fnDepthsRow.func = some 3 := by kernel_rfl

theorem fnDepths_holds : Rows.FnDepthsSaid :=
  OpenClaim.holds_of_wide 3 Try.f3 rfl rfl rfl rfl rfl rfl rfl ⟨rfl, rfl, rfl, rfl, rfl⟩ rfl rfl rfl rfl rfl fnDepths_func Try.func3 fnDepths_closed
    (of_decide_eq_true (by kernel_rfl)) (by unfold Func.isWrapper; first | (rw [if_pos (by decide +kernel)]; kernel_rfl) | (rw [if_neg (by decide +kernel)]; exact ⟨rfl, rfl⟩))
    (fun os started H enc _ => fnDepths_lifted os started H enc)
end Go.Proofs.Ythddjkokpfdbnaa
