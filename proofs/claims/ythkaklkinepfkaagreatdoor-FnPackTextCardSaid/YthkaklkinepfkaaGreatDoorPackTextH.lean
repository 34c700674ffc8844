/- FnPackText: the row'.. -/
import Derived.Test.YthkaklkinepfkaaGreatDoorPackTextTy
import Derived.Test.YthkaklkinepfkaaGreatDoorPackTextP1
import Derived.Test.YthkaklkinepfkaaGreatDoorPackTextW1
import Derived.Test.YthkaklkinepfkaaGreatDoorTie
import Derived.Test.YthkaklkinepfkaaGreatDoorCards
import Derived.LaidMore
import Derived.OpenShut
import Derived.Stop.Joined
import Derived.Stop.LaidErr
import Derived.SevenTiedAt
namespace Go.Proofs.YthkaklkinepfkaaGreatDoor
open Go Go.RowKit Go.ChangeShapes Go.WideShapes Go.ChangeAt
open Enc (rd ow)
open Arg (argv)
open Ret (retv)
open Wf (wf)
theorem gTab : Tryz.prog.globalNamed "internal/strconv.uint64pow10" = some 3 := by kernel_rfl
theorem gTabT : (Tryz.prog.globals[3]?).map (·.type)=some 275 := by kernel_rfl
theorem tabE : (Rows.laid_internal_strconv_uint64pow10 : DataW Unit)=Lib.tabData .u64 Lib.pow10Tab := by kernel_rfl
theorem Jjz : "*" ++ "errors.errorString" = "*errors.errorString" := by decide
theorem Joa (u : TypeId) (h : Tryz.prog.typeName? 3 u = some "*errors.errorString") : u = 278 :=
  typeName_ptr_named (nm := "errors.errorString") (by rw [Jjz]; kernel_rfl) (by kernel_rfl) (by decide) u (by rw [Jjz]; exact h)
theorem Q33 : Tryz.prog.cellsOf 280=1 := by kernel_rfl
theorem Q81 : Tryz.prog.cellsOf 9=1 := by kernel_rfl
theorem Jkb : Tryz.prog.globalNamed "strconv.ErrSyntax" = some 1 := by kernel_rfl
theorem Jkp : (Tryz.prog.globals[1]?).map (·.type)=some 151 := by kernel_rfl
theorem Jjo : Tryz.prog.globalNamed "strconv.ErrRange" = some 2 := by kernel_rfl
theorem Jj2 : (Tryz.prog.globals[2]?).map (·.type)=some 151 := by kernel_rfl
theorem of_laid {W : World} (h : laidMetH Tryz.prog Rows.fnPackTextRow.laid W) : Te Tryz.prog W := by
  rw [MakeChecks.laidMetH_plain _ _ _ (by kernel_rfl)] at h
  have h2 : laidMet Tryz.prog (("internal/strconv.uint64pow10", Rows.laid_internal_strconv_uint64pow10) :: Rows.fnPackTextRow.laid.drop 3) W := (laidMet.tail (laidMet.tail h))
  rw [tabE] at h2
  have h3 : laidMet Tryz.prog (("strconv.ErrSyntax", Rows.laid_strconv_ErrSyntax) :: Rows.fnPackTextRow.laid.drop 5) W := (laidMet.tail (laidMet.tail (laidMet.tail (laidMet.tail h))))
  have h4 : laidMet Tryz.prog (("strconv.ErrRange", Rows.laid_strconv_ErrRange) :: Rows.fnPackTextRow.laid.drop 4) W := (laidMet.tail (laidMet.tail (laidMet.tail h)))
  obtain ⟨a0, s0, hv0, _⟩ := laid_sentinel h3 Jkb Jkp Tryz.underlying151 Joa Tryz.underlying278 Tryz.underlying280 rfl rfl Tryz.underlying9 Q33 Q81
  obtain ⟨a1, s1, hv1, _⟩ := laid_sentinel h4 Jjo Jj2 Tryz.underlying151 Joa Tryz.underlying278 Tryz.underlying280 rfl rfl Tryz.underlying9 Q33 Q81
  exact ⟨⟨⟨3, gTab⟩, Lib.tabIs_of_head gTab gTabT Tryz.underlying275 Tryz.underlying219 (by kernel_rfl) (by kernel_rfl) h2⟩, ⟨_, _, _, Jkb, hv0⟩, ⟨_, _, _, Jjo, hv1⟩⟩
theorem door_met (os : Os) (args : Array Value) : laidMetH Tryz.prog Rows.fnPackTextRow.laid ((World.doorLaid Tryz.prog 400 os).forCall (λ_ _ => 0) ⟨#[], args, []⟩).memory :=
  laidMetH_of_parts3 (fuel := 8) (laidMet_of_run' 8 (by kernel_rfl) (by kernel_rfl)) (by kernel_rfl) (by kernel_rfl)
set_option maxRecDepth 100000 in
theorem fnPackText_lifted (os : Os) (started : os.Started) (H : Type) (enc : TypeId×Value→H) :
    ReturnsInHanded {} Tryz.checked os 8 .any (λw args => (Rows.fnPackTextSpec.pre enc Tryz.prog Tryz.f8 [] false w args∧laidMetH Tryz.prog Rows.fnPackTextRow.laid w)∧sizedMet enc Tryz.prog Tryz.f8 (OpenSpec.ofChange Rows.fnPackTextSpec) false w args) (Rows.fnPackTextSpec.post enc Tryz.prog Tryz.f8 false true false false) := by
  refine returnsInHanded_of_change_and (C := Tryz.checked) (X := λw _ => laidMetH Tryz.prog Rows.fnPackTextRow.laid w) (λ_ _ _ hh h => h.of_heap hh) own started (by kernel_rfl) Tryz.func8
    (ChangeSpec.witness_shaped (enc := enc) (C := Tryz.checked) (os := os) (X := λw _ => laidMetH Tryz.prog Rows.fnPackTextRow.laid w) false (World.doorLaid Tryz.prog 400 os) #[.slice none 0 0] 8 rfl (World.shaped_of_RefB (by kernel_rfl) (by kernel_rfl)) (by kernel_rfl) (by kernel_rfl) (by kernel_rfl) (door_met os _)) ?_
  intro W base args ds gs before hval0 hW _ _ hL _
  have hval : ∀ (j : Nat) t v, Tryz.f8.params[j]? = some t→args[j]? = some v→Value.okWide Tryz.prog W .any base t v := hval0
  have hW' := hW
  obtain ⟨p, q, hA0, hV, rfl, hfz, hnd⟩ := hW
  have hA : DataW.TrodAll enc Tryz.prog W 0 (λ_ => true) true Tryz.f8.params.toList args.toList ds p := hA0
  rw [Tryz.params8] at hA hval
  have hA1 := hA
  obtain ⟨v0, vs0, d0, ds0, p0, q0, hargs, rfl, rfl, h0, r0⟩ := trodAll_cons hA1
  obtain ⟨rfl, rfl, rfl⟩ := trodAll_nil r0
  obtain rfl : args=#[v0] := by cases args; simp_all
  obtain ⟨rfl, rfl⟩ := trodVars_none hV
  obtain ⟨x0, F0, hp0, w0⟩ := Q9k Tryz.underlying22 Jop (hval 0 22 v0 rfl rfl) h0
  obtain ⟨fu, hpure⟩ := Qyw x0 w0
  simp only [List.append_nil] at hW'
  refine (Qwu fu (of_laid hL) x0 hp0 hpure).mono λe W' ⟨he, hE⟩ => ?_
  subst he
  have hT : ∀ t∈([22] : List TypeId), Tryz.prog.readableRec t=true∧t<Tryz.prog.types.size := by
    intro t ht
    simp only [List.mem_cons, List.not_mem_nil, or_false] at ht
    subst ht; exact ⟨by kernel_rfl, of_decide_eq_true (by kernel_rfl)⟩
  exact ⟨_, rfl, Jdz (pv := []) hW' (λ_ _ _ => trodAll_cons_mk (shut_bool Tryz.underlying4 _) trodAll_mk0)
    (λsp hs => Q4x Jbq hE.below hT hA (λx hx => hW'.lt x (by simpa using hx)) (λx hx => hs x (by simpa using hx))) (λ_ _ => rfl) (by simp) hE.below (ok_one (by kernel_rfl) rfl (okWide_bool_mk Tryz.underlying4 _))⟩

theorem Qxz : ((Rows.fnPackTextRow.inPlace==Tryz.prog.inPlace 8)&&(Rows.fnPackTextRow.unfollowed==Tryz.prog.unfollowed 8)&&(Rows.fnPackTextRow.recurses==Tryz.prog.recurses 8)&&(Rows.fnPackTextRow.named==Tryz.prog.varsNamed 8))=true := by kernel_rfl
set_option maxRecDepth 100000 in
theorem Qxa : joinedFacts Tryz.prog 8 Tryz.f8 Rows.fnPackTextSpec Rows.fnPackTextRow=true := by
  have hs := Qxz
  simp only [Bool.and_eq_true] at hs
  obtain ⟨⟨⟨s1, s2⟩, s3⟩, s4⟩ := hs
  simp only [joinedFacts, Bool.and_eq_true]
  repeat' apply And.intro
  all_goals first | with_reducible exact Jbq | with_reducible exact Ji7 | with_reducible exact Jfy | with_reducible exact Jm4 | with_reducible exact s1 | with_reducible exact s2 | with_reducible exact s3 | with_reducible exact s4 | with_reducible exact Jiu Jj9 (by kernel_rfl) | with_reducible exact Q8r Jjp (by kernel_rfl) | with_reducible exact Q8r Jgc (by kernel_rfl) | kernel_rfl
theorem Quz : Tryz.prog.funcNamed Rows.fnPackTextRow.func=some 8 := by kernel_rfl

theorem fnPackText_holds : Rows.FnPackTextSaid :=
  OpenClaim.holds_of_wide 8 Tryz.f8 rfl rfl rfl rfl rfl rfl rfl ⟨rfl, rfl, rfl, rfl, rfl⟩ rfl rfl rfl rfl rfl Quz Tryz.func8 Qxa
    (of_decide_eq_true (by kernel_rfl)) (by unfold Func.isWrapper; first | (rw [if_pos (by decide +kernel)]; kernel_rfl) | (rw [if_neg (by decide +kernel)]; exact ⟨rfl, rfl⟩))
    (λos started H enc _ => fnPackText_lifted os started H enc)
theorem Jbk : Tryz.prog.wantsStandIn 22=false := by kernel_rfl
theorem fnPackText_card : Rows.FnPackTextCardSaid :=
  Claim7.holds_tied_plain_at .later [] [.data, .data, .data, .sentinel, .sentinel] true (true, "52d2b5391526eefbc094e66f2712fc157c9d49953a58bb81e41e9222856698b5") true
    fnPackText_holds (λ_ h => by cases h) (by kernel_rfl) (λ_ h => by cases h) fnPackText_row_tie rfl ⟨rfl, rfl⟩ (by kernel_rfl) rfl
    (λf fn hf hfn => by
      obtain rfl : f=8 := (Option.some.inj (Quz.symm.trans hf)).symm
      obtain rfl : fn=Tryz.f8 := (Option.some.inj (Tryz.func8.symm.trans hfn)).symm
      exact ⟨by kernel_rfl, λj t ht => by
        rw [Tryz.params8] at ht
        have h3 : t∈([22] : List TypeId) := by
          have := Array.mem_of_getElem? ht
          simpa using this
        rcases (by simpa using h3 : t=22) with rfl
        all_goals first | exact Jbk⟩)
    (by kernel_rfl)

end Go.Proofs.YthkaklkinepfkaaGreatDoor
