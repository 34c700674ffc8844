/- FnExactSwapped: the row's step: at every input the law returns true, and what it was given reads as before. Printed by shut.py. -/
import Derived.Test.YtkkfmjpbiimkbaaGreatExactSwappedTy
import Derived.Test.YtkkfmjpbiimkbaaGreatExactSwappedP1
import Derived.Test.YtkkfmjpbiimkbaaGreatExactSwappedW1
namespace Go.Proofs.YtkkfmjpbiimkbaaGreat
open Go Go.RowKit Go.ChangeShapes Go.WideShapes Go.ChangeAt
open Enc (rd ow)
open Arg (argv)
open Ret (retv)
open Wf (wf)
set_option maxRecDepth 100000 in
theorem fnExactSwapped_lifted (os : Os) (started : os.Started) (H : Type) (enc : TypeId × Value → H) :
    ReturnsInHanded {} Tryz.checked os 10 .any (Rows.fnExactSwappedSpec.pre6 enc Tryz.prog Tryz.f10 Rows.fnExactSwappedRow.domain false) (Rows.fnExactSwappedSpec.post enc Tryz.prog Tryz.f10 false true false false) := by
  refine returnsInHanded_of_change (C := Tryz.checked) own started (by kernel_rfl) Tryz.func10
    (ChangeSpec.witness6 (enc := enc) (C := Tryz.checked) false ⟨#[], #[.agg #[.int .i64 0, .int .i64 0, .int .i64 0, .int .i64 0, .int .i64 0, .int .i64 0, .slice none 0 0, .slice none 0 0, .int .i64 0, .slice none 0 0], .agg #[.slice none 0 0, .slice none 0 0], .int .i64 0, .int .i64 0], []⟩ 8 (by kernel_rfl) (by kernel_rfl) (by kernel_rfl) (by kernel_rfl)) ?_
  intro W base args ds gs before hval0 hW hcnd _
  have hval : ∀ (j : Nat) t v, Tryz.f10.params[j]? = some t → args[j]? = some v → Value.okWide Tryz.prog W .any base t v := hval0
  have hW' := hW
  obtain ⟨p, q, hA0, hV, rfl, hfz, hnd⟩ := hW
  have hA : DataW.TrodAll enc Tryz.prog W 0 (fun _ => true) true Tryz.f10.params.toList args.toList ds p := hA0
  rw [Tryz.params10] at hA hval
  have hA1 := hA
  obtain ⟨v0, vs0, d0, ds0, p0, q0, hargs, rfl, rfl, h0, r0⟩ := trodAll_cons hA1
  obtain ⟨v1, vs1, d1, ds1, p1, q1, rfl, rfl, rfl, h1, r1⟩ := trodAll_cons r0
  obtain ⟨v2, vs2, d2, ds2, p2, q2, rfl, rfl, rfl, h2, r2⟩ := trodAll_cons r1
  obtain ⟨v3, vs3, d3, ds3, p3, q3, rfl, rfl, rfl, h3, r3⟩ := trodAll_cons r2
  obtain ⟨rfl, rfl, rfl⟩ := trodAll_nil r3
  obtain rfl : args = #[v0, v1, v2, v3] := by cases args; simp_all
  obtain ⟨rfl, rfl⟩ := trodVars_none hV
  obtain ⟨x0, F0, cs0, rfl, hp0, w0⟩ := arg_struct Tryz.underlying28 tr28 (hval 0 28 v0 rfl rfl) h0
  obtain ⟨x1, F1, cs1, rfl, hp1, w1⟩ := arg_struct Tryz.underlying52 tr52 (hval 1 52 v1 rfl rfl) h1
  obtain ⟨x2, rfl, w2⟩ := arg_int Tryz.underlying3 (hval 2 3 v2 rfl rfl) h2
  obtain ⟨x3, rfl, w3⟩ := arg_int Tryz.underlying3 (hval 3 3 v3 rfl rfl) h3
  obtain ⟨fu, hpure⟩ := fnExactSwapped_pure x0 x1 x2 x3 w0 w1 w2 w3
  simp only [List.append_nil] at hW'
  refine (c_laws_FnExactSwapped fu x0 x1 x2 x3 hp0 hp1 hpure).mono fun e W' ⟨he, hE⟩ => ?_
  subst he
  have hT : ∀ t ∈ ([28, 52, 3, 3] : List TypeId), Tryz.prog.readableRec t = true ∧ t < Tryz.prog.types.size := by
    intro t ht
    simp only [List.mem_cons, List.not_mem_nil, or_false] at ht
    rcases ht with rfl | rfl | rfl | rfl <;> exact ⟨by kernel_rfl, of_decide_eq_true (by kernel_rfl)⟩
  exact ⟨_, rfl, post_new (pv := []) hW' (fun _ _ _ => trodAll_cons_mk (shut_bool Tryz.underlying4 _) trodAll_mk0)
    (fun sp hs => args_stay laidOut hE.below hT hA (fun x hx => hW'.lt x (by simpa using hx)) (fun x hx => hs x (by simpa using hx))) (fun _ _ => rfl) (by simp) hE.below (ok_one (by kernel_rfl) rfl (okWide_bool_mk Tryz.underlying4 _))⟩

theorem fnExactSwapped_shape : ((Rows.fnExactSwappedRow.inPlace == Tryz.prog.inPlace 10) && (Rows.fnExactSwappedRow.unfollowed == Tryz.prog.unfollowed 10) && (Rows.fnExactSwappedRow.recurses == Tryz.prog.recurses 10) && (Rows.fnExactSwappedRow.named == Tryz.prog.varsNamed 10)) = true := by kernel_rfl
set_option maxRecDepth 100000 in
theorem fnExactSwapped_closed : joinedFacts Tryz.prog 10 Tryz.f10 Rows.fnExactSwappedSpec Rows.fnExactSwappedRow = true := by
  have hs := fnExactSwapped_shape
  simp only [Bool.and_eq_true] at hs
  obtain ⟨⟨⟨s1, s2⟩, s3⟩, s4⟩ := hs
  simp only [joinedFacts, Bool.and_eq_true]
  repeat' apply And.intro
  all_goals first | with_reducible exact laidOut | with_reducible exact k_maps | with_reducible exact k_stops | with_reducible exact k_may | with_reducible exact s1 | with_reducible exact s2 | with_reducible exact s3 | with_reducible exact s4 | with_reducible exact beq_of k_make (by kernel_rfl) | with_reducible exact beq_of' k_keys (by kernel_rfl) | with_reducible exact beq_of' k_lifts (by kernel_rfl) | kernel_rfl
theorem fnExactSwapped_func : Tryz.prog.funcNamed Rows.fnExactSwappedRow.func = some 10 := by kernel_rfl

theorem fnExactSwapped_holds : Rows.FnExactSwappedSaid :=
  OpenClaim.holds_of_wide 10 Tryz.f10 rfl rfl rfl rfl rfl rfl rfl ⟨rfl, rfl, rfl, rfl, rfl⟩ rfl rfl rfl rfl rfl fnExactSwapped_func Tryz.func10 fnExactSwapped_closed
    (of_decide_eq_true (by kernel_rfl)) (by unfold Func.isWrapper; first | (rw [if_pos (by decide +kernel)]; kernel_rfl) | (rw [if_neg (by decide +kernel)]; exact ⟨rfl, rfl⟩))
    (fun os started H enc _ => fnExactSwapped_lifted os started H enc)
end Go.Proofs.YtkkfmjpbiimkbaaGreat
