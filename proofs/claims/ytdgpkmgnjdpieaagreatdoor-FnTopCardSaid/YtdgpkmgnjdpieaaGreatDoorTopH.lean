/- FnTop: the row's ste.. -/
import Derived.Test.YtdgpkmgnjdpieaaGreatDoorTopTy
import Derived.Test.YtdgpkmgnjdpieaaGreatDoorTopP1
import Derived.Test.YtdgpkmgnjdpieaaGreatDoorTopW1
import Derived.Test.YtdgpkmgnjdpieaaGreatDoorTie
import Derived.Test.YtdgpkmgnjdpieaaGreatDoorCards
import Derived.LaidMore
import Derived.OpenShut
import Derived.Stop.Joined
import Derived.Stop.LaidErr
import Derived.SevenTiedAt
namespace Go.Proofs.YtdgpkmgnjdpieaaGreatDoor
open Go Go.RowKit Go.ChangeShapes Go.WideShapes Go.ChangeAt
open Enc (rd ow)
open Arg (argv)
open Ret (retv)
open Wf (wf)
theorem gTab : Tryz.prog.globalNamed "internal/strconv.uint64pow10" = some 2 := by kernel_rfl
theorem gTabT : (Tryz.prog.globals[2]?).map (·.type)=some 262 := by kernel_rfl
theorem tabE : (Rows.laid_internal_strconv_uint64pow10 : DataW Unit)=Lib.tabData .u64 Lib.pow10Tab := by kernel_rfl
theorem vT : "*" ++ "errors.errorString" = "*errors.errorString" := by decide
theorem zH (u : TypeId) (h : Tryz.prog.typeName? 3 u = some "*errors.errorString") : u = 267 :=
  typeName_ptr_named (nm := "errors.errorString") (by rw [vT]; kernel_rfl) AQ A1 u (by rw [vT]; exact h)
theorem jK : Tryz.prog.cellsOf 269=1 := by kernel_rfl
theorem nX : Tryz.prog.cellsOf 9=1 := by kernel_rfl
theorem wa : Tryz.prog.globalNamed "strconv.ErrSyntax" = some 0 := by kernel_rfl
theorem xv : (Tryz.prog.globals[0]?).map (·.type)=some 211 := by kernel_rfl
theorem wc : Tryz.prog.globalNamed "strconv.ErrRange" = some 1 := by kernel_rfl
theorem xk : (Tryz.prog.globals[1]?).map (·.type)=some 211 := by kernel_rfl
theorem of_laid {W : World} (h : laidMetH Tryz.prog Rows.fnTopRow.laid W) : Te Tryz.prog W := by
  rw [MakeChecks.laidMetH_plain _ _ _ AQ] at h
  have E : laidMet Tryz.prog (("internal/strconv.uint64pow10", Rows.laid_internal_strconv_uint64pow10) :: Rows.fnTopRow.laid.drop 3) W := (laidMet.tail (laidMet.tail h))
  rw [tabE] at E
  have L : laidMet Tryz.prog (("strconv.ErrSyntax", Rows.laid_strconv_ErrSyntax) :: Rows.fnTopRow.laid.drop 5) W := (laidMet.tail (laidMet.tail (laidMet.tail (laidMet.tail h))))
  have J : laidMet Tryz.prog (("strconv.ErrRange", Rows.laid_strconv_ErrRange) :: Rows.fnTopRow.laid.drop 4) W := (laidMet.tail (laidMet.tail (laidMet.tail h)))
  obtain ⟨_, _, A, _⟩ := laid_sentinel L wa xv Tryz.underlying211 zH Tryz.underlying267 Tryz.underlying269 rfl rfl Tryz.underlying9 jK nX
  obtain ⟨_, s1, D, _⟩ := laid_sentinel J wc xk Tryz.underlying211 zH Tryz.underlying267 Tryz.underlying269 rfl rfl Tryz.underlying9 jK nX
  exact ⟨⟨⟨2, gTab⟩, Lib.tabIs_of_head gTab gTabT Tryz.underlying262 Tryz.underlying198 AQ AQ E⟩, ⟨_, _, _, wa, A⟩, ⟨_, _, _, wc, D⟩⟩
theorem door_met (os : Os) (args : Array Value) : laidMetH Tryz.prog Rows.fnTopRow.laid ((World.doorLaid Tryz.prog 400 os).forCall (λ_ _ => 0) ⟨#[], args, []⟩).memory :=
  laidMetH_of_parts3 (fuel := 8) (laidMet_of_run' 8 AQ AQ) AQ AQ
set_option maxRecDepth 100000 in
theorem fnTop_lifted (os : Os) (A : os.Started) (H : Type) (enc : TypeId×Value→H) :
    ReturnsInHanded {} Tryz.checked os 3 .any (λw args => (Rows.fnTopSpec.pre enc Tryz.prog Tryz.f3 [] false w args∧laidMetH Tryz.prog Rows.fnTopRow.laid w)∧sizedMet enc Tryz.prog Tryz.f3 (OpenSpec.ofChange Rows.fnTopSpec) false w args) (Rows.fnTopSpec.post enc Tryz.prog Tryz.f3 false true false false) := by
  refine returnsInHanded_of_change_and (C := Tryz.checked) (X := λw _ => laidMetH Tryz.prog Rows.fnTopRow.laid w) (λ_ _ _ hh h => h.of_heap hh) own A AQ Tryz.func3
    (ChangeSpec.witness_shaped (enc := enc) (C := Tryz.checked) (os := os) (X := λw _ => laidMetH Tryz.prog Rows.fnTopRow.laid w) false (World.doorLaid Tryz.prog 400 os) #[.slice none 0 0] 8 rfl (World.shaped_of_RefB AQ AQ) AQ AQ AQ (door_met os _)) ?_
  intro W M args ds gs N J hW _ _ hL _
  have D : ∀ (j : Nat) t v, Tryz.f3.params[j]? = some t→args[j]? = some v→Value.okWide Tryz.prog W .any M t v := J
  have L := hW
  obtain ⟨p, q, U, hV, rfl, _, _⟩ := hW
  have T : DataW.TrodAll enc Tryz.prog W 0 (λ_ => true) true Tryz.f3.params.toList args.toList ds p := U
  rw [Tryz.params3] at T D
  have O := T
  obtain ⟨v0, _, _, _, _, _, _, rfl, rfl, h0, r0⟩ := trodAll_cons O
  obtain ⟨rfl, rfl, rfl⟩ := trodAll_nil r0
  obtain rfl : args=#[v0] := by cases args; simp_all
  obtain ⟨rfl, rfl⟩ := trodVars_none hV
  obtain ⟨Z, _, V, w0⟩ := qL Tryz.underlying22 z1 (D 0 22 v0 rfl rfl) h0
  obtain ⟨fu, E⟩ := nF Z w0
  simp only [List.append_nil] at L
  refine (kL fu (of_laid hL) Z V E).mono λe _ ⟨he, Y⟩ => ?_
  subst he
  have hT : ∀ t∈([22] : List TypeId), Tryz.prog.readableRec t=true∧t<Tryz.prog.types.size := by
    intro t ht
    simp only [List.mem_cons, List.not_mem_nil, or_false] at ht
    subst ht; exact ⟨AQ, of_decide_eq_true AQ⟩
  exact ⟨_, rfl, qZ (pv := []) L (λ_ _ _ => trodAll_cons_mk (shut_bool Tryz.underlying4 _) trodAll_mk0)
    (λ_ hs => jV oX Y.below hT T (λx Q => L.lt x (by simpa using Q)) (λx Q => hs x (by simpa using Q))) (λ_ _ => rfl) AD Y.below (ok_one AQ rfl (okWide_bool_mk Tryz.underlying4 _))⟩

theorem mI : ((Rows.fnTopRow.inPlace==Tryz.prog.inPlace 3)&&(Rows.fnTopRow.unfollowed==Tryz.prog.unfollowed 3)&&(Rows.fnTopRow.recurses==Tryz.prog.recurses 3)&&(Rows.fnTopRow.named==Tryz.prog.varsNamed 3))=true := by kernel_rfl
set_option maxRecDepth 100000 in
theorem kx : joinedFacts Tryz.prog 3 Tryz.f3 Rows.fnTopSpec Rows.fnTopRow=true := by
  have A := mI
  simp only [Bool.and_eq_true] at A
  obtain ⟨⟨⟨s1, D⟩, E⟩, J⟩ := A
  simp only [joinedFacts, Bool.and_eq_true]
  repeat' apply And.intro
  all_goals first | with_reducible exact oX | with_reducible exact xz | with_reducible exact u6 | with_reducible exact zK | with_reducible exact s1 | with_reducible exact D | with_reducible exact E | with_reducible exact J | with_reducible exact xt wH AQ | with_reducible exact oJ wQ AQ | with_reducible exact oJ vu AQ | kernel_rfl
theorem ir : Tryz.prog.funcNamed Rows.fnTopRow.func=some 3 := by kernel_rfl

theorem fnTop_holds : Rows.FnTopSaid :=
  OpenClaim.holds_of_wide 3 Tryz.f3 rfl rfl rfl rfl rfl rfl rfl ⟨rfl, rfl, rfl, rfl, rfl⟩ rfl rfl rfl rfl rfl ir Tryz.func3 kx
    (of_decide_eq_true AQ) (by unfold Func.isWrapper; first | (rw [if_pos (by decide +kernel)]; kernel_rfl) | (rw [if_neg (by decide +kernel)]; exact ⟨rfl, rfl⟩))
    (λos A H enc _ => fnTop_lifted os A H enc)
theorem qM : Tryz.prog.wantsStandIn 22=false := by kernel_rfl
theorem fnTop_card : Rows.FnTopCardSaid :=
  Claim7.holds_tied_plain_at .later [] [.data, .data, .data, .sentinel, .sentinel] true (true, "1a20aa205d1bbde2fd6ad3c1fa7bbca066aebf01d06d6295004ce84bd123b23c") true
    fnTop_holds (λ_ h => by cases h) AQ (λ_ h => by cases h) fnTop_row_tie rfl ⟨rfl, rfl⟩ AQ rfl
    (λf fn E A => by
      obtain rfl : f=3 := (Option.some.inj (ir.symm.trans E)).symm
      obtain rfl : fn=Tryz.f3 := (Option.some.inj (Tryz.func3.symm.trans A)).symm
      exact ⟨AQ, λj t D => by
        rw [Tryz.params3] at D
        have J : t∈([22] : List TypeId) := by
          have := Array.mem_of_getElem? D
          simpa using this
        rcases (by simpa using J : t=22) with rfl
        all_goals first | exact qM⟩)
    AQ

end Go.Proofs.YtdgpkmgnjdpieaaGreatDoor
