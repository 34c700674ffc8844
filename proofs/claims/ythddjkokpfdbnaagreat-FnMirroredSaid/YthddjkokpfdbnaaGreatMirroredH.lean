/- FnMirrored: the row'.. -/
import Derived.Test.YthddjkokpfdbnaaGreatMirroredTy
import Derived.Test.YthddjkokpfdbnaaGreatMirroredP1
import Derived.Test.YthddjkokpfdbnaaGreatMirroredW1
namespace Go.Proofs.YthddjkokpfdbnaaGreat
open Go Go.RowKit Go.ChangeShapes Go.WideShapes Go.ChangeAt
open Enc (rd ow)
open Arg (argv)
open Ret (retv)
open Wf (wf)
set_option maxRecDepth 100000 in
theorem fnMirrored_lifted (os : Os) (started : os.Started) (H : Type) (enc : TypeId × Value → H) :
    ReturnsInHanded {} Tryz.checked os 6 .any (Rows.fnMirroredSpec.pre6 enc Tryz.prog Tryz.f6 Rows.fnMirroredRow.domain false) (Rows.fnMirroredSpec.post enc Tryz.prog Tryz.f6 false true false false) := by
  refine returnsInHanded_of_change (C := Tryz.checked) own started (by kernel_rfl) Tryz.func6
    (ChangeSpec.witness6 (enc := enc) (C := Tryz.checked) false ⟨#[], #[.slice none 0 0], []⟩ 8 (by kernel_rfl) (by kernel_rfl) (by kernel_rfl) (by kernel_rfl)) ?_
  intro W base args ds gs before hval0 hW hcnd _
  have hval : ∀ (j : Nat) t v, Tryz.f6.params[j]? = some t → args[j]? = some v → Value.okWide Tryz.prog W .any base t v := hval0
  have hW' := hW
  obtain ⟨p, q, hA0, hV, rfl, hfz, hnd⟩ := hW
  have hA : DataW.TrodAll enc Tryz.prog W 0 (fun _ => true) true Tryz.f6.params.toList args.toList ds p := hA0
  rw [Tryz.params6] at hA hval
  have hA1 := hA
  obtain ⟨v0, vs0, d0, ds0, p0, q0, hargs, rfl, rfl, h0, r0⟩ := trodAll_cons hA1
  obtain ⟨rfl, rfl, rfl⟩ := trodAll_nil r0
  obtain rfl : args = #[v0] := by cases args; simp_all
  obtain ⟨rfl, rfl⟩ := trodVars_none hV
  obtain ⟨x0, F0, hp0, w0⟩ := Q8r Tryz.underlying22 Jit (hval 0 22 v0 rfl rfl) h0
  obtain ⟨fu, hpure⟩ := Qzl x0 w0
  simp only [List.append_nil] at hW'
  refine (Qwt fu x0 hp0 hpure).mono fun e W' ⟨he, hE⟩ => ?_
  subst he
  have hT : ∀ t ∈ ([22] : List TypeId), Tryz.prog.readableRec t = true ∧ t < Tryz.prog.types.size := by
    intro t ht
    simp only [List.mem_cons, List.not_mem_nil, or_false] at ht
    subst ht; exact ⟨by kernel_rfl, of_decide_eq_true (by kernel_rfl)⟩
  exact ⟨_, rfl, Jbk (pv := []) hW' (fun _ _ _ => trodAll_cons_mk (shut_bool Tryz.underlying4 _) trodAll_mk0)
    (fun sp hs => Q3s Q7u hE.below hT hA (fun x hx => hW'.lt x (by simpa using hx)) (fun x hx => hs x (by simpa using hx))) (fun _ _ => rfl) (by simp) hE.below (ok_one (by kernel_rfl) rfl (okWide_bool_mk Tryz.underlying4 _))⟩

theorem Qxs : ((Rows.fnMirroredRow.inPlace == Tryz.prog.inPlace 6) && (Rows.fnMirroredRow.unfollowed == Tryz.prog.unfollowed 6) && (Rows.fnMirroredRow.recurses == Tryz.prog.recurses 6) && (Rows.fnMirroredRow.named == Tryz.prog.varsNamed 6)) = true := by kernel_rfl
set_option maxRecDepth 100000 in
theorem Qwu : joinedFacts Tryz.prog 6 Tryz.f6 Rows.fnMirroredSpec Rows.fnMirroredRow = true := by
  have hs := Qxs
  simp only [Bool.and_eq_true] at hs
  obtain ⟨⟨⟨s1, s2⟩, s3⟩, s4⟩ := hs
  simp only [joinedFacts, Bool.and_eq_true]
  repeat' apply And.intro
  all_goals first | with_reducible exact Q7u | with_reducible exact Je0 | with_reducible exact Jc5 | with_reducible exact Jgp | with_reducible exact s1 | with_reducible exact s2 | with_reducible exact s3 | with_reducible exact s4 | with_reducible exact Jep Jem (by kernel_rfl) | with_reducible exact Q8e Jel (by kernel_rfl) | with_reducible exact Q8e Jdg (by kernel_rfl) | kernel_rfl
theorem Qzg : Tryz.prog.funcNamed Rows.fnMirroredRow.func = some 6 := by kernel_rfl

theorem fnMirrored_holds : Rows.FnMirroredSaid :=
  OpenClaim.holds_of_wide 6 Tryz.f6 rfl rfl rfl rfl rfl rfl rfl ⟨rfl, rfl, rfl, rfl, rfl⟩ rfl rfl rfl rfl rfl Qzg Tryz.func6 Qwu
    (of_decide_eq_true (by kernel_rfl)) (by unfold Func.isWrapper; first | (rw [if_pos (by decide +kernel)]; kernel_rfl) | (rw [if_neg (by decide +kernel)]; exact ⟨rfl, rfl⟩))
    (fun os started H enc _ => fnMirrored_lifted os started H enc)
end Go.Proofs.YthddjkokpfdbnaaGreat
