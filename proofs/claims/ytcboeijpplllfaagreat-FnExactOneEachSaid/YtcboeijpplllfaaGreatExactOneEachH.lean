/- FnExactOneEach: the row's step: at every input the law returns true, and what it was given reads as before. Printed by shut.py. -/
import Derived.Test.YtcboeijpplllfaaGreatExactOneEachTy
import Derived.Test.YtcboeijpplllfaaGreatExactOneEachP1
import Derived.Test.YtcboeijpplllfaaGreatExactOneEachW1
namespace Go.Proofs.YtcboeijpplllfaaGreat
open Go Go.RowKit Go.ChangeShapes Go.WideShapes Go.ChangeAt
open Enc (rd ow)
open Arg (argv)
open Ret (retv)
open Wf (wf)
set_option maxRecDepth 100000 in
theorem fnExactOneEach_lifted (os : Os) (started : os.Started) (H : Type) (enc : TypeId × Value → H) :
    ReturnsInHanded {} Tryz.checked os 4 .any (Rows.fnExactOneEachSpec.pre6 enc Tryz.prog Tryz.f4 Rows.fnExactOneEachRow.domain false) (Rows.fnExactOneEachSpec.post enc Tryz.prog Tryz.f4 false true false false) := by
  refine returnsInHanded_of_change (C := Tryz.checked) own started (by kernel_rfl) Tryz.func4
    (ChangeSpec.witness6 (enc := enc) (C := Tryz.checked) false ⟨#[], #[.agg #[.int .i64 0, .int .i64 0, .int .i64 0, .int .i64 0, .int .i64 0, .int .i64 0, .slice none 0 0, .slice none 0 0, .int .i64 0, .slice none 0 0]], []⟩ 8 (by kernel_rfl) (by kernel_rfl) (by kernel_rfl) (by kernel_rfl)) ?_
  intro W base args ds gs before hval0 hW hcnd _
  have hval : ∀ (j : Nat) t v, Tryz.f4.params[j]? = some t → args[j]? = some v → Value.okWide Tryz.prog W .any base t v := hval0
  have hW' := hW
  obtain ⟨p, q, hA0, hV, rfl, hfz, hnd⟩ := hW
  have hA : DataW.TrodAll enc Tryz.prog W 0 (fun _ => true) true Tryz.f4.params.toList args.toList ds p := hA0
  rw [Tryz.params4] at hA hval
  have hA1 := hA
  obtain ⟨v0, vs0, d0, ds0, p0, q0, hargs, rfl, rfl, h0, r0⟩ := trodAll_cons hA1
  obtain ⟨rfl, rfl, rfl⟩ := trodAll_nil r0
  obtain rfl : args = #[v0] := by cases args; simp_all
  obtain ⟨rfl, rfl⟩ := trodVars_none hV
  obtain ⟨x0, F0, cs0, rfl, hp0, w0⟩ := arg_struct Tryz.underlying28 tr28 (hval 0 28 v0 rfl rfl) h0
  obtain ⟨fu, hpure⟩ := fnExactOneEach_pure x0 w0
  simp only [List.append_nil] at hW'
  refine (c_laws_FnExactOneEach fu x0 hp0 hpure).mono fun e W' ⟨he, hE⟩ => ?_
  subst he
  have hT : ∀ t ∈ ([28] : List TypeId), Tryz.prog.readableRec t = true ∧ t < Tryz.prog.types.size := by
    intro t ht
    simp only [List.mem_cons, List.not_mem_nil, or_false] at ht
    subst ht; exact ⟨by kernel_rfl, of_decide_eq_true (by kernel_rfl)⟩
  exact ⟨_, rfl, post_new (pv := []) hW' (fun _ _ _ => trodAll_cons_mk (shut_bool Tryz.underlying4 _) trodAll_mk0)
    (fun sp hs => args_stay laidOut hE.below hT hA (fun x hx => hW'.lt x (by simpa using hx)) (fun x hx => hs x (by simpa using hx))) (fun _ _ => rfl) (by simp) hE.below (ok_one (by kernel_rfl) rfl (okWide_bool_mk Tryz.underlying4 _))⟩

theorem fnExactOneEach_shape : ((Rows.fnExactOneEachRow.inPlace == Tryz.prog.inPlace 4) && (Rows.fnExactOneEachRow.unfollowed == Tryz.prog.unfollowed 4) && (Rows.fnExactOneEachRow.recurses == Tryz.prog.recurses 4) && (Rows.fnExactOneEachRow.named == Tryz.prog.varsNamed 4)) = true := by kernel_rfl
set_option maxRecDepth 100000 in
theorem fnExactOneEach_closed : joinedFacts Tryz.prog 4 Tryz.f4 Rows.fnExactOneEachSpec Rows.fnExactOneEachRow = true := by
  have hs := fnExactOneEach_shape
  simp only [Bool.and_eq_true] at hs
  obtain ⟨⟨⟨s1, s2⟩, s3⟩, s4⟩ := hs
  simp only [joinedFacts, Bool.and_eq_true]
  repeat' apply And.intro
  all_goals first | with_reducible exact laidOut | with_reducible exact k_maps | with_reducible exact k_stops | with_reducible exact k_may | with_reducible exact s1 | with_reducible exact s2 | with_reducible exact s3 | with_reducible exact s4 | with_reducible exact beq_of k_make (by kernel_rfl) | with_reducible exact beq_of' k_keys (by kernel_rfl) | with_reducible exact beq_of' k_lifts (by kernel_rfl) | kernel_rfl
theorem fnExactOneEach_func : Tryz.prog.funcNamed Rows.fnExactOneEachRow.func = some 4 := by kernel_rfl

theorem fnExactOneEach_holds : Rows.FnExactOneEachSaid :=
  OpenClaim.holds_of_wide 4 Tryz.f4 rfl rfl rfl rfl rfl rfl rfl ⟨rfl, rfl, rfl, rfl, rfl⟩ rfl rfl rfl rfl rfl fnExactOneEach_func Tryz.func4 fnExactOneEach_closed
    (of_decide_eq_true (by kernel_rfl)) (by unfold Func.isWrapper; first | (rw [if_pos (by decide +kernel)]; kernel_rfl) | (rw [if_neg (by decide +kernel)]; exact ⟨rfl, rfl⟩))
    (fun os started H enc _ => fnExactOneEach_lifted os started H enc)
end Go.Proofs.YtcboeijpplllfaaGreat
