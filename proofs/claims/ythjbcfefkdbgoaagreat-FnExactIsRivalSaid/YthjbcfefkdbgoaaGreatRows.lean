/-
  No cell of these rows narrows 'for every input' (looked for: loops, veiled, ifaces, maps, wideKeys, modest, calm, conditions, laid).
  DERIVED. THE GIVEN ROWS OF THIS SEAT. 12 by the template 'for every input the law returns true; each argument reads behind the call as it read before'; 0 by the template 'total and deterministic' (their statements: YthjbcfefkdbgoaaGreatTotals.lean).
  GIVEN WITH THE SEED: the statements are not yours to turn. If you find one false, say at which input.
  Laid BY PROGRAM, IN A SANDBOX (cutbox-rows.mjs): the forced cells as the released guide's own fill.sh prints them over the translation 2452f93539394420… (all of the seat's roots in one cut). By AI agents, Wed Nov 11 2026. No macro, syntax, notation, axiom, sorry.
-/
import Derived.Test.YthjbcfefkdbgoaaGreatChecked
import GoSem.Claim
import GoSem.ClaimJoined
import GoSem.ClaimMapViews
import Derived.JoinedTies
import Derived.KernelRfl
namespace Go.Proofs.YthjbcfefkdbgoaaGreat
/- THE CELL 'sum', in the pinned program and in every row, IS THE sha256 OF THE DUMP (.gsa) THAT YthjbcfefkdbgoaaGreatProg.lean LOADS. Nothing in Lean hashes anything: it is a label: what it is worth is what the hold of that sum in a sandbox is worth. -/
noncomputable def Tryz.pinned : Pinned := { name := "ythjbcfefkdbgoaagreat", sum := "2452f93539394420948775caf0cbdaa9138ae3d676c43292a72d0a9a43f71351", checked := Tryz.checked }
namespace Rows
def none {H : Type} : Left H := { results := [], args := [] }

/-- 'laws.FnExactFill': WHATEVER THE INPUT: true; the input reads as it did. -/
def fnExactFillSpec : ChangeSpec := { name := "fnExactFill", fn := fun _ => fun
  | [d1, d2] => { results := [.lit (.bool true)], args := [d1, d2] }
  | _ => none }
def fnExactFillRow : OpenClaim := { program := "ythjbcfefkdbgoaagreat", sum := "2452f93539394420948775caf0cbdaa9138ae3d676c43292a72d0a9a43f71351", func := "loop.example/g00489/laws.FnExactFill", spec := "fnExactFill", unfollowed := true, recurses := true, apart := false }
def FnExactFillSaid : Prop := fnExactFillRow.holds Tryz.pinned (OpenSpec.ofChange fnExactFillSpec)

/-- ITS FALSE NEIGHBOUR: 'it returns false'. Refute it at one input. -/
def fnExactFillWrong : ChangeSpec := { name := "fnExactFill", fn := fun _ => fun
  | [d1, d2] => { results := [.lit (.bool false)], args := [d1, d2] }
  | _ => none }
def FnExactFillWrongFalsely : Prop := fnExactFillRow.holds Tryz.pinned (OpenSpec.ofChange fnExactFillWrong)

/-- 'laws.FnExactOneEach': WHATEVER THE INPUT: true; the input reads as it did. -/
def fnExactOneEachSpec : ChangeSpec := { name := "fnExactOneEach", fn := fun _ => fun
  | [d] => { results := [.lit (.bool true)], args := [d] }
  | _ => none }
def fnExactOneEachRow : OpenClaim := { program := "ythjbcfefkdbgoaagreat", sum := "2452f93539394420948775caf0cbdaa9138ae3d676c43292a72d0a9a43f71351", func := "loop.example/g00489/laws.FnExactOneEach", spec := "fnExactOneEach", unfollowed := true, recurses := true, apart := false }
def FnExactOneEachSaid : Prop := fnExactOneEachRow.holds Tryz.pinned (OpenSpec.ofChange fnExactOneEachSpec)

/-- ITS FALSE NEIGHBOUR: 'it returns false'. Refute it at one input. -/
def fnExactOneEachWrong : ChangeSpec := { name := "fnExactOneEach", fn := fun _ => fun
  | [d] => { results := [.lit (.bool false)], args := [d] }
  | _ => none }
def FnExactOneEachWrongFalsely : Prop := fnExactOneEachRow.holds Tryz.pinned (OpenSpec.ofChange fnExactOneEachWrong)

/-- 'laws.FnExactSlackGram': WHATEVER THE INPUT: true; the input reads as it did. -/
def fnExactSlackGramSpec : ChangeSpec := { name := "fnExactSlackGram", fn := fun _ => fun
  | [d1, d2] => { results := [.lit (.bool true)], args := [d1, d2] }
  | _ => none }
def fnExactSlackGramRow : OpenClaim := { program := "ythjbcfefkdbgoaagreat", sum := "2452f93539394420948775caf0cbdaa9138ae3d676c43292a72d0a9a43f71351", func := "loop.example/g00489/laws.FnExactSlackGram", spec := "fnExactSlackGram", unfollowed := true, recurses := true, apart := false }
def FnExactSlackGramSaid : Prop := fnExactSlackGramRow.holds Tryz.pinned (OpenSpec.ofChange fnExactSlackGramSpec)

/-- ITS FALSE NEIGHBOUR: 'it returns false'. Refute it at one input. -/
def fnExactSlackGramWrong : ChangeSpec := { name := "fnExactSlackGram", fn := fun _ => fun
  | [d1, d2] => { results := [.lit (.bool false)], args := [d1, d2] }
  | _ => none }
def FnExactSlackGramWrongFalsely : Prop := fnExactSlackGramRow.holds Tryz.pinned (OpenSpec.ofChange fnExactSlackGramWrong)

/-- 'laws.FnExactSlackVolume': WHATEVER THE INPUT: true; the input reads as it did. -/
def fnExactSlackVolumeSpec : ChangeSpec := { name := "fnExactSlackVolume", fn := fun _ => fun
  | [d1, d2] => { results := [.lit (.bool true)], args := [d1, d2] }
  | _ => none }
def fnExactSlackVolumeRow : OpenClaim := { program := "ythjbcfefkdbgoaagreat", sum := "2452f93539394420948775caf0cbdaa9138ae3d676c43292a72d0a9a43f71351", func := "loop.example/g00489/laws.FnExactSlackVolume", spec := "fnExactSlackVolume", unfollowed := true, recurses := true, apart := false }
def FnExactSlackVolumeSaid : Prop := fnExactSlackVolumeRow.holds Tryz.pinned (OpenSpec.ofChange fnExactSlackVolumeSpec)

/-- ITS FALSE NEIGHBOUR: 'it returns false'. Refute it at one input. -/
def fnExactSlackVolumeWrong : ChangeSpec := { name := "fnExactSlackVolume", fn := fun _ => fun
  | [d1, d2] => { results := [.lit (.bool false)], args := [d1, d2] }
  | _ => none }
def FnExactSlackVolumeWrongFalsely : Prop := fnExactSlackVolumeRow.holds Tryz.pinned (OpenSpec.ofChange fnExactSlackVolumeWrong)

/-- 'laws.FnExactTouching': WHATEVER THE INPUT: true; the input reads as it did. -/
def fnExactTouchingSpec : ChangeSpec := { name := "fnExactTouching", fn := fun _ => fun
  | [d1, d2, d3] => { results := [.lit (.bool true)], args := [d1, d2, d3] }
  | _ => none }
def fnExactTouchingRow : OpenClaim := { program := "ythjbcfefkdbgoaagreat", sum := "2452f93539394420948775caf0cbdaa9138ae3d676c43292a72d0a9a43f71351", func := "loop.example/g00489/laws.FnExactTouching", spec := "fnExactTouching", unfollowed := true, recurses := true, apart := false }
def FnExactTouchingSaid : Prop := fnExactTouchingRow.holds Tryz.pinned (OpenSpec.ofChange fnExactTouchingSpec)

/-- ITS FALSE NEIGHBOUR: 'it returns false'. Refute it at one input. -/
def fnExactTouchingWrong : ChangeSpec := { name := "fnExactTouching", fn := fun _ => fun
  | [d1, d2, d3] => { results := [.lit (.bool false)], args := [d1, d2, d3] }
  | _ => none }
def FnExactTouchingWrongFalsely : Prop := fnExactTouchingRow.holds Tryz.pinned (OpenSpec.ofChange fnExactTouchingWrong)

/-- 'laws.FnExactMixes': WHATEVER THE INPUT: true; the input reads as it did. -/
def fnExactMixesSpec : ChangeSpec := { name := "fnExactMixes", fn := fun _ => fun
  | [d1, d2] => { results := [.lit (.bool true)], args := [d1, d2] }
  | _ => none }
def fnExactMixesRow : OpenClaim := { program := "ythjbcfefkdbgoaagreat", sum := "2452f93539394420948775caf0cbdaa9138ae3d676c43292a72d0a9a43f71351", func := "loop.example/g00489/laws.FnExactMixes", spec := "fnExactMixes", unfollowed := true, recurses := true, apart := false }
def FnExactMixesSaid : Prop := fnExactMixesRow.holds Tryz.pinned (OpenSpec.ofChange fnExactMixesSpec)

/-- ITS FALSE NEIGHBOUR: 'it returns false'. Refute it at one input. -/
def fnExactMixesWrong : ChangeSpec := { name := "fnExactMixes", fn := fun _ => fun
  | [d1, d2] => { results := [.lit (.bool false)], args := [d1, d2] }
  | _ => none }
def FnExactMixesWrongFalsely : Prop := fnExactMixesRow.holds Tryz.pinned (OpenSpec.ofChange fnExactMixesWrong)

/-- 'laws.FnExactFills': WHATEVER THE INPUT: true; the input reads as it did. -/
def fnExactFillsSpec : ChangeSpec := { name := "fnExactFills", fn := fun _ => fun
  | [d1, d2] => { results := [.lit (.bool true)], args := [d1, d2] }
  | _ => none }
def fnExactFillsRow : OpenClaim := { program := "ythjbcfefkdbgoaagreat", sum := "2452f93539394420948775caf0cbdaa9138ae3d676c43292a72d0a9a43f71351", func := "loop.example/g00489/laws.FnExactFills", spec := "fnExactFills", unfollowed := true, recurses := true, apart := false }
def FnExactFillsSaid : Prop := fnExactFillsRow.holds Tryz.pinned (OpenSpec.ofChange fnExactFillsSpec)

/-- ITS FALSE NEIGHBOUR: 'it returns false'. Refute it at one input. -/
def fnExactFillsWrong : ChangeSpec := { name := "fnExactFills", fn := fun _ => fun
  | [d1, d2] => { results := [.lit (.bool false)], args := [d1, d2] }
  | _ => none }
def FnExactFillsWrongFalsely : Prop := fnExactFillsRow.holds Tryz.pinned (OpenSpec.ofChange fnExactFillsWrong)

/-- 'laws.FnExactRivalBy': WHATEVER THE INPUT: true; the input reads as it did. -/
def fnExactRivalBySpec : ChangeSpec := { name := "fnExactRivalBy", fn := fun _ => fun
  | [d1, d2] => { results := [.lit (.bool true)], args := [d1, d2] }
  | _ => none }
def fnExactRivalByRow : OpenClaim := { program := "ythjbcfefkdbgoaagreat", sum := "2452f93539394420948775caf0cbdaa9138ae3d676c43292a72d0a9a43f71351", func := "loop.example/g00489/laws.FnExactRivalBy", spec := "fnExactRivalBy", unfollowed := true, recurses := true, apart := false }
def FnExactRivalBySaid : Prop := fnExactRivalByRow.holds Tryz.pinned (OpenSpec.ofChange fnExactRivalBySpec)

/-- ITS FALSE NEIGHBOUR: 'it returns false'. Refute it at one input. -/
def fnExactRivalByWrong : ChangeSpec := { name := "fnExactRivalBy", fn := fun _ => fun
  | [d1, d2] => { results := [.lit (.bool false)], args := [d1, d2] }
  | _ => none }
def FnExactRivalByWrongFalsely : Prop := fnExactRivalByRow.holds Tryz.pinned (OpenSpec.ofChange fnExactRivalByWrong)

/-- 'laws.FnExactIsRival': WHATEVER THE INPUT: true; the input reads as it did. -/
def fnExactIsRivalSpec : ChangeSpec := { name := "fnExactIsRival", fn := fun _ => fun
  | [d1, d2] => { results := [.lit (.bool true)], args := [d1, d2] }
  | _ => none }
def fnExactIsRivalRow : OpenClaim := { program := "ythjbcfefkdbgoaagreat", sum := "2452f93539394420948775caf0cbdaa9138ae3d676c43292a72d0a9a43f71351", func := "loop.example/g00489/laws.FnExactIsRival", spec := "fnExactIsRival", unfollowed := true, recurses := true, apart := false }
def FnExactIsRivalSaid : Prop := fnExactIsRivalRow.holds Tryz.pinned (OpenSpec.ofChange fnExactIsRivalSpec)

/-- ITS FALSE NEIGHBOUR: 'it returns false'. Refute it at one input. -/
def fnExactIsRivalWrong : ChangeSpec := { name := "fnExactIsRival", fn := fun _ => fun
  | [d1, d2] => { results := [.lit (.bool false)], args := [d1, d2] }
  | _ => none }
def FnExactIsRivalWrongFalsely : Prop := fnExactIsRivalRow.holds Tryz.pinned (OpenSpec.ofChange fnExactIsRivalWrong)

/-- 'laws.FnExactPromise': WHATEVER THE INPUT: true; the input reads as it did. -/
def fnExactPromiseSpec : ChangeSpec := { name := "fnExactPromise", fn := fun _ => fun
  | [d1, d2, d3] => { results := [.lit (.bool true)], args := [d1, d2, d3] }
  | _ => none }
def fnExactPromiseRow : OpenClaim := { program := "ythjbcfefkdbgoaagreat", sum := "2452f93539394420948775caf0cbdaa9138ae3d676c43292a72d0a9a43f71351", func := "loop.example/g00489/laws.FnExactPromise", spec := "fnExactPromise", unfollowed := true, recurses := true, apart := false }
def FnExactPromiseSaid : Prop := fnExactPromiseRow.holds Tryz.pinned (OpenSpec.ofChange fnExactPromiseSpec)

/-- ITS FALSE NEIGHBOUR: 'it returns false'. Refute it at one input. -/
def fnExactPromiseWrong : ChangeSpec := { name := "fnExactPromise", fn := fun _ => fun
  | [d1, d2, d3] => { results := [.lit (.bool false)], args := [d1, d2, d3] }
  | _ => none }
def FnExactPromiseWrongFalsely : Prop := fnExactPromiseRow.holds Tryz.pinned (OpenSpec.ofChange fnExactPromiseWrong)

/-- 'laws.FnExactLost': WHATEVER THE INPUT: true; the input reads as it did. -/
def fnExactLostSpec : ChangeSpec := { name := "fnExactLost", fn := fun _ => fun
  | [d1, d2] => { results := [.lit (.bool true)], args := [d1, d2] }
  | _ => none }
def fnExactLostRow : OpenClaim := { program := "ythjbcfefkdbgoaagreat", sum := "2452f93539394420948775caf0cbdaa9138ae3d676c43292a72d0a9a43f71351", func := "loop.example/g00489/laws.FnExactLost", spec := "fnExactLost", unfollowed := true, recurses := true, apart := false }
def FnExactLostSaid : Prop := fnExactLostRow.holds Tryz.pinned (OpenSpec.ofChange fnExactLostSpec)

/-- ITS FALSE NEIGHBOUR: 'it returns false'. Refute it at one input. -/
def fnExactLostWrong : ChangeSpec := { name := "fnExactLost", fn := fun _ => fun
  | [d1, d2] => { results := [.lit (.bool false)], args := [d1, d2] }
  | _ => none }
def FnExactLostWrongFalsely : Prop := fnExactLostRow.holds Tryz.pinned (OpenSpec.ofChange fnExactLostWrong)

/-- 'laws.FnExactSpare': WHATEVER THE INPUT: true; the input reads as it did. -/
def fnExactSpareSpec : ChangeSpec := { name := "fnExactSpare", fn := fun _ => fun
  | [d1, d2] => { results := [.lit (.bool true)], args := [d1, d2] }
  | _ => none }
def fnExactSpareRow : OpenClaim := { program := "ythjbcfefkdbgoaagreat", sum := "2452f93539394420948775caf0cbdaa9138ae3d676c43292a72d0a9a43f71351", func := "loop.example/g00489/laws.FnExactSpare", spec := "fnExactSpare", unfollowed := true, recurses := true, apart := false }
def FnExactSpareSaid : Prop := fnExactSpareRow.holds Tryz.pinned (OpenSpec.ofChange fnExactSpareSpec)

/-- ITS FALSE NEIGHBOUR: 'it returns false'. Refute it at one input. -/
def fnExactSpareWrong : ChangeSpec := { name := "fnExactSpare", fn := fun _ => fun
  | [d1, d2] => { results := [.lit (.bool false)], args := [d1, d2] }
  | _ => none }
def FnExactSpareWrongFalsely : Prop := fnExactSpareRow.holds Tryz.pinned (OpenSpec.ofChange fnExactSpareWrong)

/- THE SECOND FORM. 'bulk': how many values and letters a reading holds, each counted each time it is reached (what is shared counts as often as it is met; a slice's spare places count too). A statement '..UptoSaid' is the law's where the arguments, and the package variables that the reading takes, are together of bulk at most 1048576: NARROWER than '..Said'. Prove '..Said' where nothing that the law and all that it calls make is longer than what came in: it says more and counts as full. Else prove '..UptoSaid'. A law counts once. -/
mutual
def uptoBulk {H : Type} : DataW H → Nat
  | .lit (.string bytes) => bytes.length + 1
  | .lit _ => 1
  | .nil => 1
  | .ptr d => uptoBulk d + 1
  | .slice elems spare => uptoBulkAll elems + uptoBulkAll spare + 1
  | .agg parts => uptoBulkAll parts + 1
  | .iface _ d => uptoBulk d + 1
  | .map entries => uptoBulkEntries entries + 1
  | .held _ => 1
def uptoBulkAll {H : Type} : List (DataW H) → Nat
  | [] => 0
  | d :: r => uptoBulk d + uptoBulkAll r
def uptoBulkEntries {H : Type} : List (Lit × DataW H) → Nat
  | [] => 0
  | x :: r => uptoBulkEntry x + uptoBulkEntries r
def uptoBulkEntry {H : Type} : Lit × DataW H → Nat
  | (.string bytes, d) => bytes.length + uptoBulk d + 1
  | (_, d) => uptoBulk d + 1
 end
def uptoSmall : (H : Type) → List (DataW H) → Bool := fun _ ds => decide (uptoBulkAll ds ≤ 1048576)
def OpenSpec.upto (s : _root_.Go.ChangeSpec) : _root_.Go.OpenSpec := { _root_.Go.OpenSpec.ofChange s with cond := some uptoSmall }

/-- 'laws.FnExactFill', WHERE WHAT IT READS IS OF BULK AT MOST 1048576: true; the input reads as it did. -/
def fnExactFillUptoRow : OpenClaim := { program := "ythjbcfefkdbgoaagreat", sum := "2452f93539394420948775caf0cbdaa9138ae3d676c43292a72d0a9a43f71351", func := "loop.example/g00489/laws.FnExactFill", spec := "fnExactFill", unfollowed := true, recurses := true, apart := false, narrowed := true }
def FnExactFillUptoSaid : Prop := fnExactFillUptoRow.holds Tryz.pinned (OpenSpec.upto fnExactFillSpec)

/-- 'laws.FnExactOneEach', WHERE WHAT IT READS IS OF BULK AT MOST 1048576: true; the input reads as it did. -/
def fnExactOneEachUptoRow : OpenClaim := { program := "ythjbcfefkdbgoaagreat", sum := "2452f93539394420948775caf0cbdaa9138ae3d676c43292a72d0a9a43f71351", func := "loop.example/g00489/laws.FnExactOneEach", spec := "fnExactOneEach", unfollowed := true, recurses := true, apart := false, narrowed := true }
def FnExactOneEachUptoSaid : Prop := fnExactOneEachUptoRow.holds Tryz.pinned (OpenSpec.upto fnExactOneEachSpec)

/-- 'laws.FnExactSlackGram', WHERE WHAT IT READS IS OF BULK AT MOST 1048576: true; the input reads as it did. -/
def fnExactSlackGramUptoRow : OpenClaim := { program := "ythjbcfefkdbgoaagreat", sum := "2452f93539394420948775caf0cbdaa9138ae3d676c43292a72d0a9a43f71351", func := "loop.example/g00489/laws.FnExactSlackGram", spec := "fnExactSlackGram", unfollowed := true, recurses := true, apart := false, narrowed := true }
def FnExactSlackGramUptoSaid : Prop := fnExactSlackGramUptoRow.holds Tryz.pinned (OpenSpec.upto fnExactSlackGramSpec)

/-- 'laws.FnExactSlackVolume', WHERE WHAT IT READS IS OF BULK AT MOST 1048576: true; the input reads as it did. -/
def fnExactSlackVolumeUptoRow : OpenClaim := { program := "ythjbcfefkdbgoaagreat", sum := "2452f93539394420948775caf0cbdaa9138ae3d676c43292a72d0a9a43f71351", func := "loop.example/g00489/laws.FnExactSlackVolume", spec := "fnExactSlackVolume", unfollowed := true, recurses := true, apart := false, narrowed := true }
def FnExactSlackVolumeUptoSaid : Prop := fnExactSlackVolumeUptoRow.holds Tryz.pinned (OpenSpec.upto fnExactSlackVolumeSpec)

/-- 'laws.FnExactTouching', WHERE WHAT IT READS IS OF BULK AT MOST 1048576: true; the input reads as it did. -/
def fnExactTouchingUptoRow : OpenClaim := { program := "ythjbcfefkdbgoaagreat", sum := "2452f93539394420948775caf0cbdaa9138ae3d676c43292a72d0a9a43f71351", func := "loop.example/g00489/laws.FnExactTouching", spec := "fnExactTouching", unfollowed := true, recurses := true, apart := false, narrowed := true }
def FnExactTouchingUptoSaid : Prop := fnExactTouchingUptoRow.holds Tryz.pinned (OpenSpec.upto fnExactTouchingSpec)

/-- 'laws.FnExactMixes', WHERE WHAT IT READS IS OF BULK AT MOST 1048576: true; the input reads as it did. -/
def fnExactMixesUptoRow : OpenClaim := { program := "ythjbcfefkdbgoaagreat", sum := "2452f93539394420948775caf0cbdaa9138ae3d676c43292a72d0a9a43f71351", func := "loop.example/g00489/laws.FnExactMixes", spec := "fnExactMixes", unfollowed := true, recurses := true, apart := false, narrowed := true }
def FnExactMixesUptoSaid : Prop := fnExactMixesUptoRow.holds Tryz.pinned (OpenSpec.upto fnExactMixesSpec)

/-- 'laws.FnExactFills', WHERE WHAT IT READS IS OF BULK AT MOST 1048576: true; the input reads as it did. -/
def fnExactFillsUptoRow : OpenClaim := { program := "ythjbcfefkdbgoaagreat", sum := "2452f93539394420948775caf0cbdaa9138ae3d676c43292a72d0a9a43f71351", func := "loop.example/g00489/laws.FnExactFills", spec := "fnExactFills", unfollowed := true, recurses := true, apart := false, narrowed := true }
def FnExactFillsUptoSaid : Prop := fnExactFillsUptoRow.holds Tryz.pinned (OpenSpec.upto fnExactFillsSpec)

/-- 'laws.FnExactRivalBy', WHERE WHAT IT READS IS OF BULK AT MOST 1048576: true; the input reads as it did. -/
def fnExactRivalByUptoRow : OpenClaim := { program := "ythjbcfefkdbgoaagreat", sum := "2452f93539394420948775caf0cbdaa9138ae3d676c43292a72d0a9a43f71351", func := "loop.example/g00489/laws.FnExactRivalBy", spec := "fnExactRivalBy", unfollowed := true, recurses := true, apart := false, narrowed := true }
def FnExactRivalByUptoSaid : Prop := fnExactRivalByUptoRow.holds Tryz.pinned (OpenSpec.upto fnExactRivalBySpec)

/-- 'laws.FnExactIsRival', WHERE WHAT IT READS IS OF BULK AT MOST 1048576: true; the input reads as it did. -/
def fnExactIsRivalUptoRow : OpenClaim := { program := "ythjbcfefkdbgoaagreat", sum := "2452f93539394420948775caf0cbdaa9138ae3d676c43292a72d0a9a43f71351", func := "loop.example/g00489/laws.FnExactIsRival", spec := "fnExactIsRival", unfollowed := true, recurses := true, apart := false, narrowed := true }
def FnExactIsRivalUptoSaid : Prop := fnExactIsRivalUptoRow.holds Tryz.pinned (OpenSpec.upto fnExactIsRivalSpec)

/-- 'laws.FnExactPromise', WHERE WHAT IT READS IS OF BULK AT MOST 1048576: true; the input reads as it did. -/
def fnExactPromiseUptoRow : OpenClaim := { program := "ythjbcfefkdbgoaagreat", sum := "2452f93539394420948775caf0cbdaa9138ae3d676c43292a72d0a9a43f71351", func := "loop.example/g00489/laws.FnExactPromise", spec := "fnExactPromise", unfollowed := true, recurses := true, apart := false, narrowed := true }
def FnExactPromiseUptoSaid : Prop := fnExactPromiseUptoRow.holds Tryz.pinned (OpenSpec.upto fnExactPromiseSpec)

/-- 'laws.FnExactLost', WHERE WHAT IT READS IS OF BULK AT MOST 1048576: true; the input reads as it did. -/
def fnExactLostUptoRow : OpenClaim := { program := "ythjbcfefkdbgoaagreat", sum := "2452f93539394420948775caf0cbdaa9138ae3d676c43292a72d0a9a43f71351", func := "loop.example/g00489/laws.FnExactLost", spec := "fnExactLost", unfollowed := true, recurses := true, apart := false, narrowed := true }
def FnExactLostUptoSaid : Prop := fnExactLostUptoRow.holds Tryz.pinned (OpenSpec.upto fnExactLostSpec)

/-- 'laws.FnExactSpare', WHERE WHAT IT READS IS OF BULK AT MOST 1048576: true; the input reads as it did. -/
def fnExactSpareUptoRow : OpenClaim := { program := "ythjbcfefkdbgoaagreat", sum := "2452f93539394420948775caf0cbdaa9138ae3d676c43292a72d0a9a43f71351", func := "loop.example/g00489/laws.FnExactSpare", spec := "fnExactSpare", unfollowed := true, recurses := true, apart := false, narrowed := true }
def FnExactSpareUptoSaid : Prop := fnExactSpareUptoRow.holds Tryz.pinned (OpenSpec.upto fnExactSpareSpec)

end Rows
end Go.Proofs.YthjbcfefkdbgoaaGreat
