/- FnTampered: the row'.. -/
import Derived.Test.YtpcmapfabndggaaGreatTamperedTy
import Derived.Test.YtpcmapfabndggaaGreatTamperedP1
import Derived.Test.YtpcmapfabndggaaGreatTamperedW1
namespace Go.Proofs.YtpcmapfabndggaaGreat
open Go Go.RowKit Go.ChangeShapes Go.WideShapes Go.ChangeAt
open Enc (rd ow)
open Arg (argv)
open Ret (retv)
open Wf (wf)
set_option maxRecDepth 100000 in
theorem fnTampered_lifted (os : Os) (started : os.Started) (H : Type) (enc : TypeId×Value→H) :
    ReturnsInHanded {} Tryz.checked os 5 .any (Rows.fnTamperedSpec.pre6 enc Tryz.prog Tryz.f5 Rows.fnTamperedRow.domain false) (Rows.fnTamperedSpec.post enc Tryz.prog Tryz.f5 false true false false) := by
  refine returnsInHanded_of_change (C := Tryz.checked) own started (by kernel_rfl) Tryz.func5
    (ChangeSpec.witness6 (enc := enc) (C := Tryz.checked) false ⟨#[], #[.slice none 0 0], []⟩ 8 (by kernel_rfl) (by kernel_rfl) (by kernel_rfl) (by kernel_rfl)) ?_
  intro W base args ds gs before hval0 hW hcnd _
  have hval : ∀ (j : Nat) t v, Tryz.f5.params[j]? = some t→args[j]? = some v→Value.okWide Tryz.prog W .any base t v := hval0
  have hW' := hW
  obtain ⟨p, q, hA0, hV, rfl, hfz, hnd⟩ := hW
  have hA : DataW.TrodAll enc Tryz.prog W 0 (λ_ => true) true Tryz.f5.params.toList args.toList ds p := hA0
  rw [Tryz.params5] at hA hval
  have hA1 := hA
  obtain ⟨v0, vs0, d0, ds0, p0, q0, hargs, rfl, rfl, h0, r0⟩ := trodAll_cons hA1
  obtain ⟨rfl, rfl, rfl⟩ := trodAll_nil r0
  obtain rfl : args=#[v0] := by cases args; simp_all
  obtain ⟨rfl, rfl⟩ := trodVars_none hV
  obtain ⟨x0, F0, hp0, w0⟩ := Q8w Tryz.underlying22 Jkr (hval 0 22 v0 rfl rfl) h0
  obtain ⟨fu, hpure⟩ := Qzg x0 w0
  simp only [List.append_nil] at hW'
  refine (Qxl fu x0 hp0 hpure).mono λe W' ⟨he, hE⟩ => ?_
  subst he
  have hT : ∀ t∈([22] : List TypeId), Tryz.prog.readableRec t=true∧t<Tryz.prog.types.size := by
    intro t ht
    simp only [List.mem_cons, List.not_mem_nil, or_false] at ht
    subst ht; exact ⟨by kernel_rfl, of_decide_eq_true (by kernel_rfl)⟩
  exact ⟨_, rfl, Jc3 (pv := []) hW' (λ_ _ _ => trodAll_cons_mk (shut_bool Tryz.underlying4 _) trodAll_mk0)
    (λsp hs => Q3z Q8y hE.below hT hA (λx hx => hW'.lt x (by simpa using hx)) (λx hx => hs x (by simpa using hx))) (λ_ _ => rfl) (by simp) hE.below (ok_one (by kernel_rfl) rfl (okWide_bool_mk Tryz.underlying4 _))⟩

theorem Qyo : ((Rows.fnTamperedRow.inPlace==Tryz.prog.inPlace 5)&&(Rows.fnTamperedRow.unfollowed==Tryz.prog.unfollowed 5)&&(Rows.fnTamperedRow.recurses==Tryz.prog.recurses 5)&&(Rows.fnTamperedRow.named==Tryz.prog.varsNamed 5))=true := by kernel_rfl
set_option maxRecDepth 100000 in
theorem Qxv : joinedFacts Tryz.prog 5 Tryz.f5 Rows.fnTamperedSpec Rows.fnTamperedRow=true := by
  have hs := Qyo
  simp only [Bool.and_eq_true] at hs
  obtain ⟨⟨⟨s1, s2⟩, s3⟩, s4⟩ := hs
  simp only [joinedFacts, Bool.and_eq_true]
  repeat' apply And.intro
  all_goals first | with_reducible exact Q8y | with_reducible exact Jhy | with_reducible exact Je9 | with_reducible exact Jj7 | with_reducible exact s1 | with_reducible exact s2 | with_reducible exact s3 | with_reducible exact s4 | with_reducible exact Jhg Jhd (by kernel_rfl) | with_reducible exact Ja4 Jg1 (by kernel_rfl) | with_reducible exact Ja4 Je2 (by kernel_rfl) | kernel_rfl
theorem Qzd : Tryz.prog.funcNamed Rows.fnTamperedRow.func=some 5 := by kernel_rfl

theorem fnTampered_holds : Rows.FnTamperedSaid :=
  OpenClaim.holds_of_wide 5 Tryz.f5 rfl rfl rfl rfl rfl rfl rfl ⟨rfl, rfl, rfl, rfl, rfl⟩ rfl rfl rfl rfl rfl Qzd Tryz.func5 Qxv
    (of_decide_eq_true (by kernel_rfl)) (by unfold Func.isWrapper; first | (rw [if_pos (by decide +kernel)]; kernel_rfl) | (rw [if_neg (by decide +kernel)]; exact ⟨rfl, rfl⟩))
    (λos started H enc _ => fnTampered_lifted os started H enc)
end Go.Proofs.YtpcmapfabndggaaGreat
