/-
  No cell of these rows narrows 'for every input' (looked for: loops, veiled, ifaces, maps, wideKeys, modest, calm, conditions, laid).
  DERIVED. THE GIVEN ROWS OF THIS SEAT. 12 by the template 'for every input the law returns true; each argument reads behind the call as it read before'; 0 by the template 'total and deterministic' (their statements: YtkkfmjpbiimkbaaGreatTotals.lean).
  GIVEN WITH THE SEED: the statements are not yours to turn. If you find one false, say at which input.
  Laid BY PROGRAM, IN A SANDBOX (cutbox-rows.mjs): the forced cells as the released guide's own fill.sh prints them over the translation 72f6a774c716b284… (all of the seat's roots in one cut). By AI agents, Wed Nov 11 2026. No macro, syntax, notation, axiom, sorry.
-/
import Derived.Test.YtkkfmjpbiimkbaaGreatChecked
import GoSem.Claim
import GoSem.ClaimJoined
import GoSem.ClaimMapViews
import Derived.JoinedTies
import Derived.KernelRfl
namespace Go.Proofs.YtkkfmjpbiimkbaaGreat
/- THE CELL 'sum', in the pinned program and in every row, IS THE sha256 OF THE DUMP (.gsa) THAT YtkkfmjpbiimkbaaGreatProg.lean LOADS. Nothing in Lean hashes anything: it is a label: what it is worth is what the hold of that sum in a sandbox is worth. -/
noncomputable def Tryz.pinned : Pinned := { name := "ytkkfmjpbiimkbaagreat", sum := "72f6a774c716b2849f0ddb56949b84ad7cabc54970c3c3073e3a3a9997268656", checked := Tryz.checked }
namespace Rows
def none {H : Type} : Left H := { results := [], args := [] }

/-- 'laws.FnExactSpare': WHATEVER THE INPUT: true; the input reads as it did. -/
def fnExactSpareSpec : ChangeSpec := { name := "fnExactSpare", fn := fun _ => fun
  | [d1, d2] => { results := [.lit (.bool true)], args := [d1, d2] }
  | _ => none }
def fnExactSpareRow : OpenClaim := { program := "ytkkfmjpbiimkbaagreat", sum := "72f6a774c716b2849f0ddb56949b84ad7cabc54970c3c3073e3a3a9997268656", func := "loop.example/g00489/laws.FnExactSpare", spec := "fnExactSpare", unfollowed := true, recurses := true, apart := false }
def FnExactSpareSaid : Prop := fnExactSpareRow.holds Tryz.pinned (OpenSpec.ofChange fnExactSpareSpec)

/-- ITS FALSE NEIGHBOUR: 'it returns false'. Refute it at one input. -/
def fnExactSpareWrong : ChangeSpec := { name := "fnExactSpare", fn := fun _ => fun
  | [d1, d2] => { results := [.lit (.bool false)], args := [d1, d2] }
  | _ => none }
def FnExactSpareWrongFalsely : Prop := fnExactSpareRow.holds Tryz.pinned (OpenSpec.ofChange fnExactSpareWrong)

/-- 'laws.FnExactSqueeze': WHATEVER THE INPUT: true; the input reads as it did. -/
def fnExactSqueezeSpec : ChangeSpec := { name := "fnExactSqueeze", fn := fun _ => fun
  | [d1, d2] => { results := [.lit (.bool true)], args := [d1, d2] }
  | _ => none }
def fnExactSqueezeRow : OpenClaim := { program := "ytkkfmjpbiimkbaagreat", sum := "72f6a774c716b2849f0ddb56949b84ad7cabc54970c3c3073e3a3a9997268656", func := "loop.example/g00489/laws.FnExactSqueeze", spec := "fnExactSqueeze", unfollowed := true, recurses := true, apart := false }
def FnExactSqueezeSaid : Prop := fnExactSqueezeRow.holds Tryz.pinned (OpenSpec.ofChange fnExactSqueezeSpec)

/-- ITS FALSE NEIGHBOUR: 'it returns false'. Refute it at one input. -/
def fnExactSqueezeWrong : ChangeSpec := { name := "fnExactSqueeze", fn := fun _ => fun
  | [d1, d2] => { results := [.lit (.bool false)], args := [d1, d2] }
  | _ => none }
def FnExactSqueezeWrongFalsely : Prop := fnExactSqueezeRow.holds Tryz.pinned (OpenSpec.ofChange fnExactSqueezeWrong)

/-- 'laws.FnExactCountIn': WHATEVER THE INPUT: true; the input reads as it did. -/
def fnExactCountInSpec : ChangeSpec := { name := "fnExactCountIn", fn := fun _ => fun
  | [d1, d2] => { results := [.lit (.bool true)], args := [d1, d2] }
  | _ => none }
def fnExactCountInRow : OpenClaim := { program := "ytkkfmjpbiimkbaagreat", sum := "72f6a774c716b2849f0ddb56949b84ad7cabc54970c3c3073e3a3a9997268656", func := "loop.example/g00489/laws.FnExactCountIn", spec := "fnExactCountIn", unfollowed := true, recurses := true, apart := false }
def FnExactCountInSaid : Prop := fnExactCountInRow.holds Tryz.pinned (OpenSpec.ofChange fnExactCountInSpec)

/-- ITS FALSE NEIGHBOUR: 'it returns false'. Refute it at one input. -/
def fnExactCountInWrong : ChangeSpec := { name := "fnExactCountIn", fn := fun _ => fun
  | [d1, d2] => { results := [.lit (.bool false)], args := [d1, d2] }
  | _ => none }
def FnExactCountInWrongFalsely : Prop := fnExactCountInRow.holds Tryz.pinned (OpenSpec.ofChange fnExactCountInWrong)

/-- 'laws.FnExactOurs': WHATEVER THE INPUT: true; the input reads as it did. -/
def fnExactOursSpec : ChangeSpec := { name := "fnExactOurs", fn := fun _ => fun
  | [d] => { results := [.lit (.bool true)], args := [d] }
  | _ => none }
def fnExactOursRow : OpenClaim := { program := "ytkkfmjpbiimkbaagreat", sum := "72f6a774c716b2849f0ddb56949b84ad7cabc54970c3c3073e3a3a9997268656", func := "loop.example/g00489/laws.FnExactOurs", spec := "fnExactOurs", unfollowed := true, recurses := true, apart := false }
def FnExactOursSaid : Prop := fnExactOursRow.holds Tryz.pinned (OpenSpec.ofChange fnExactOursSpec)

/-- ITS FALSE NEIGHBOUR: 'it returns false'. Refute it at one input. -/
def fnExactOursWrong : ChangeSpec := { name := "fnExactOurs", fn := fun _ => fun
  | [d] => { results := [.lit (.bool false)], args := [d] }
  | _ => none }
def FnExactOursWrongFalsely : Prop := fnExactOursRow.holds Tryz.pinned (OpenSpec.ofChange fnExactOursWrong)

/-- 'laws.FnExactCheck': WHATEVER THE INPUT: true; the input reads as it did. -/
def fnExactCheckSpec : ChangeSpec := { name := "fnExactCheck", fn := fun _ => fun
  | [d1, d2] => { results := [.lit (.bool true)], args := [d1, d2] }
  | _ => none }
def fnExactCheckRow : OpenClaim := { program := "ytkkfmjpbiimkbaagreat", sum := "72f6a774c716b2849f0ddb56949b84ad7cabc54970c3c3073e3a3a9997268656", func := "loop.example/g00489/laws.FnExactCheck", spec := "fnExactCheck", unfollowed := true, recurses := true, apart := false }
def FnExactCheckSaid : Prop := fnExactCheckRow.holds Tryz.pinned (OpenSpec.ofChange fnExactCheckSpec)

/-- ITS FALSE NEIGHBOUR: 'it returns false'. Refute it at one input. -/
def fnExactCheckWrong : ChangeSpec := { name := "fnExactCheck", fn := fun _ => fun
  | [d1, d2] => { results := [.lit (.bool false)], args := [d1, d2] }
  | _ => none }
def FnExactCheckWrongFalsely : Prop := fnExactCheckRow.holds Tryz.pinned (OpenSpec.ofChange fnExactCheckWrong)

/-- 'laws.FnExactFeasible': WHATEVER THE INPUT: true; the input reads as it did. -/
def fnExactFeasibleSpec : ChangeSpec := { name := "fnExactFeasible", fn := fun _ => fun
  | [d1, d2] => { results := [.lit (.bool true)], args := [d1, d2] }
  | _ => none }
def fnExactFeasibleRow : OpenClaim := { program := "ytkkfmjpbiimkbaagreat", sum := "72f6a774c716b2849f0ddb56949b84ad7cabc54970c3c3073e3a3a9997268656", func := "loop.example/g00489/laws.FnExactFeasible", spec := "fnExactFeasible", unfollowed := true, recurses := true, apart := false }
def FnExactFeasibleSaid : Prop := fnExactFeasibleRow.holds Tryz.pinned (OpenSpec.ofChange fnExactFeasibleSpec)

/-- ITS FALSE NEIGHBOUR: 'it returns false'. Refute it at one input. -/
def fnExactFeasibleWrong : ChangeSpec := { name := "fnExactFeasible", fn := fun _ => fun
  | [d1, d2] => { results := [.lit (.bool false)], args := [d1, d2] }
  | _ => none }
def FnExactFeasibleWrongFalsely : Prop := fnExactFeasibleRow.holds Tryz.pinned (OpenSpec.ofChange fnExactFeasibleWrong)

/-- 'laws.FnExactShuffled': WHATEVER THE INPUT: true; the input reads as it did. -/
def fnExactShuffledSpec : ChangeSpec := { name := "fnExactShuffled", fn := fun _ => fun
  | [d1, d2, d3] => { results := [.lit (.bool true)], args := [d1, d2, d3] }
  | _ => none }
def fnExactShuffledRow : OpenClaim := { program := "ytkkfmjpbiimkbaagreat", sum := "72f6a774c716b2849f0ddb56949b84ad7cabc54970c3c3073e3a3a9997268656", func := "loop.example/g00489/laws.FnExactShuffled", spec := "fnExactShuffled", unfollowed := true, recurses := true, apart := false }
def FnExactShuffledSaid : Prop := fnExactShuffledRow.holds Tryz.pinned (OpenSpec.ofChange fnExactShuffledSpec)

/-- ITS FALSE NEIGHBOUR: 'it returns false'. Refute it at one input. -/
def fnExactShuffledWrong : ChangeSpec := { name := "fnExactShuffled", fn := fun _ => fun
  | [d1, d2, d3] => { results := [.lit (.bool false)], args := [d1, d2, d3] }
  | _ => none }
def FnExactShuffledWrongFalsely : Prop := fnExactShuffledRow.holds Tryz.pinned (OpenSpec.ofChange fnExactShuffledWrong)

/-- 'laws.FnExactSwapped': WHATEVER THE INPUT: true; the input reads as it did. -/
def fnExactSwappedSpec : ChangeSpec := { name := "fnExactSwapped", fn := fun _ => fun
  | [d1, d2, d3, d4] => { results := [.lit (.bool true)], args := [d1, d2, d3, d4] }
  | _ => none }
def fnExactSwappedRow : OpenClaim := { program := "ytkkfmjpbiimkbaagreat", sum := "72f6a774c716b2849f0ddb56949b84ad7cabc54970c3c3073e3a3a9997268656", func := "loop.example/g00489/laws.FnExactSwapped", spec := "fnExactSwapped", unfollowed := true, recurses := true, apart := false }
def FnExactSwappedSaid : Prop := fnExactSwappedRow.holds Tryz.pinned (OpenSpec.ofChange fnExactSwappedSpec)

/-- ITS FALSE NEIGHBOUR: 'it returns false'. Refute it at one input. -/
def fnExactSwappedWrong : ChangeSpec := { name := "fnExactSwapped", fn := fun _ => fun
  | [d1, d2, d3, d4] => { results := [.lit (.bool false)], args := [d1, d2, d3, d4] }
  | _ => none }
def FnExactSwappedWrongFalsely : Prop := fnExactSwappedRow.holds Tryz.pinned (OpenSpec.ofChange fnExactSwappedWrong)

/-- 'laws.FnExactDropped': WHATEVER THE INPUT: true; the input reads as it did. -/
def fnExactDroppedSpec : ChangeSpec := { name := "fnExactDropped", fn := fun _ => fun
  | [d1, d2] => { results := [.lit (.bool true)], args := [d1, d2] }
  | _ => none }
def fnExactDroppedRow : OpenClaim := { program := "ytkkfmjpbiimkbaagreat", sum := "72f6a774c716b2849f0ddb56949b84ad7cabc54970c3c3073e3a3a9997268656", func := "loop.example/g00489/laws.FnExactDropped", spec := "fnExactDropped", unfollowed := true, recurses := true, apart := false }
def FnExactDroppedSaid : Prop := fnExactDroppedRow.holds Tryz.pinned (OpenSpec.ofChange fnExactDroppedSpec)

/-- ITS FALSE NEIGHBOUR: 'it returns false'. Refute it at one input. -/
def fnExactDroppedWrong : ChangeSpec := { name := "fnExactDropped", fn := fun _ => fun
  | [d1, d2] => { results := [.lit (.bool false)], args := [d1, d2] }
  | _ => none }
def FnExactDroppedWrongFalsely : Prop := fnExactDroppedRow.holds Tryz.pinned (OpenSpec.ofChange fnExactDroppedWrong)

/-- 'laws.FnChecked': WHATEVER THE INPUT: true; the input reads as it did. -/
def fnCheckedSpec : ChangeSpec := { name := "fnChecked", fn := fun _ => fun
  | [d] => { results := [.lit (.bool true)], args := [d] }
  | _ => none }
def fnCheckedRow : OpenClaim := { program := "ytkkfmjpbiimkbaagreat", sum := "72f6a774c716b2849f0ddb56949b84ad7cabc54970c3c3073e3a3a9997268656", func := "loop.example/g00489/laws.FnChecked", spec := "fnChecked", unfollowed := true, recurses := true, apart := false }
def FnCheckedSaid : Prop := fnCheckedRow.holds Tryz.pinned (OpenSpec.ofChange fnCheckedSpec)

/-- ITS FALSE NEIGHBOUR: 'it returns false'. Refute it at one input. -/
def fnCheckedWrong : ChangeSpec := { name := "fnChecked", fn := fun _ => fun
  | [d] => { results := [.lit (.bool false)], args := [d] }
  | _ => none }
def FnCheckedWrongFalsely : Prop := fnCheckedRow.holds Tryz.pinned (OpenSpec.ofChange fnCheckedWrong)

/-- 'laws.FnNoMix': WHATEVER THE INPUT: true; the input reads as it did. -/
def fnNoMixSpec : ChangeSpec := { name := "fnNoMix", fn := fun _ => fun
  | [d] => { results := [.lit (.bool true)], args := [d] }
  | _ => none }
def fnNoMixRow : OpenClaim := { program := "ytkkfmjpbiimkbaagreat", sum := "72f6a774c716b2849f0ddb56949b84ad7cabc54970c3c3073e3a3a9997268656", func := "loop.example/g00489/laws.FnNoMix", spec := "fnNoMix", unfollowed := true, recurses := true, apart := false }
def FnNoMixSaid : Prop := fnNoMixRow.holds Tryz.pinned (OpenSpec.ofChange fnNoMixSpec)

/-- ITS FALSE NEIGHBOUR: 'it returns false'. Refute it at one input. -/
def fnNoMixWrong : ChangeSpec := { name := "fnNoMix", fn := fun _ => fun
  | [d] => { results := [.lit (.bool false)], args := [d] }
  | _ => none }
def FnNoMixWrongFalsely : Prop := fnNoMixRow.holds Tryz.pinned (OpenSpec.ofChange fnNoMixWrong)

/-- 'laws.FnFill': WHATEVER THE INPUT: true; the input reads as it did. -/
def fnFillSpec : ChangeSpec := { name := "fnFill", fn := fun _ => fun
  | [d] => { results := [.lit (.bool true)], args := [d] }
  | _ => none }
def fnFillRow : OpenClaim := { program := "ytkkfmjpbiimkbaagreat", sum := "72f6a774c716b2849f0ddb56949b84ad7cabc54970c3c3073e3a3a9997268656", func := "loop.example/g00489/laws.FnFill", spec := "fnFill", unfollowed := true, recurses := true, apart := false }
def FnFillSaid : Prop := fnFillRow.holds Tryz.pinned (OpenSpec.ofChange fnFillSpec)

/-- ITS FALSE NEIGHBOUR: 'it returns false'. Refute it at one input. -/
def fnFillWrong : ChangeSpec := { name := "fnFill", fn := fun _ => fun
  | [d] => { results := [.lit (.bool false)], args := [d] }
  | _ => none }
def FnFillWrongFalsely : Prop := fnFillRow.holds Tryz.pinned (OpenSpec.ofChange fnFillWrong)

/- THE SECOND FORM. 'bulk': how many values and letters a reading holds, each counted each time it is reached (what is shared counts as often as it is met; a slice's spare places count too). A statement '..UptoSaid' is the law's where the arguments, and the package variables that the reading takes, are together of bulk at most 1048576: NARROWER than '..Said'. Prove '..Said' where nothing that the law and all that it calls make is longer than what came in: it says more and counts as full. Else prove '..UptoSaid'. A law counts once. -/
mutual
def uptoBulk {H : Type} : DataW H → Nat
  | .lit (.string bytes) => bytes.length + 1
  | .lit _ => 1
  | .nil => 1
  | .ptr d => uptoBulk d + 1
  | .slice elems spare => uptoBulkAll elems + uptoBulkAll spare + 1
  | .agg parts => uptoBulkAll parts + 1
  | .iface _ d => uptoBulk d + 1
  | .map entries => uptoBulkEntries entries + 1
  | .held _ => 1
def uptoBulkAll {H : Type} : List (DataW H) → Nat
  | [] => 0
  | d :: r => uptoBulk d + uptoBulkAll r
def uptoBulkEntries {H : Type} : List (Lit × DataW H) → Nat
  | [] => 0
  | x :: r => uptoBulkEntry x + uptoBulkEntries r
def uptoBulkEntry {H : Type} : Lit × DataW H → Nat
  | (.string bytes, d) => bytes.length + uptoBulk d + 1
  | (_, d) => uptoBulk d + 1
 end
def uptoSmall : (H : Type) → List (DataW H) → Bool := fun _ ds => decide (uptoBulkAll ds ≤ 1048576)
def OpenSpec.upto (s : _root_.Go.ChangeSpec) : _root_.Go.OpenSpec := { _root_.Go.OpenSpec.ofChange s with cond := some uptoSmall }

/-- 'laws.FnExactSpare', WHERE WHAT IT READS IS OF BULK AT MOST 1048576: true; the input reads as it did. -/
def fnExactSpareUptoRow : OpenClaim := { program := "ytkkfmjpbiimkbaagreat", sum := "72f6a774c716b2849f0ddb56949b84ad7cabc54970c3c3073e3a3a9997268656", func := "loop.example/g00489/laws.FnExactSpare", spec := "fnExactSpare", unfollowed := true, recurses := true, apart := false, narrowed := true }
def FnExactSpareUptoSaid : Prop := fnExactSpareUptoRow.holds Tryz.pinned (OpenSpec.upto fnExactSpareSpec)

/-- 'laws.FnExactSqueeze', WHERE WHAT IT READS IS OF BULK AT MOST 1048576: true; the input reads as it did. -/
def fnExactSqueezeUptoRow : OpenClaim := { program := "ytkkfmjpbiimkbaagreat", sum := "72f6a774c716b2849f0ddb56949b84ad7cabc54970c3c3073e3a3a9997268656", func := "loop.example/g00489/laws.FnExactSqueeze", spec := "fnExactSqueeze", unfollowed := true, recurses := true, apart := false, narrowed := true }
def FnExactSqueezeUptoSaid : Prop := fnExactSqueezeUptoRow.holds Tryz.pinned (OpenSpec.upto fnExactSqueezeSpec)

/-- 'laws.FnExactCountIn', WHERE WHAT IT READS IS OF BULK AT MOST 1048576: true; the input reads as it did. -/
def fnExactCountInUptoRow : OpenClaim := { program := "ytkkfmjpbiimkbaagreat", sum := "72f6a774c716b2849f0ddb56949b84ad7cabc54970c3c3073e3a3a9997268656", func := "loop.example/g00489/laws.FnExactCountIn", spec := "fnExactCountIn", unfollowed := true, recurses := true, apart := false, narrowed := true }
def FnExactCountInUptoSaid : Prop := fnExactCountInUptoRow.holds Tryz.pinned (OpenSpec.upto fnExactCountInSpec)

/-- 'laws.FnExactOurs', WHERE WHAT IT READS IS OF BULK AT MOST 1048576: true; the input reads as it did. -/
def fnExactOursUptoRow : OpenClaim := { program := "ytkkfmjpbiimkbaagreat", sum := "72f6a774c716b2849f0ddb56949b84ad7cabc54970c3c3073e3a3a9997268656", func := "loop.example/g00489/laws.FnExactOurs", spec := "fnExactOurs", unfollowed := true, recurses := true, apart := false, narrowed := true }
def FnExactOursUptoSaid : Prop := fnExactOursUptoRow.holds Tryz.pinned (OpenSpec.upto fnExactOursSpec)

/-- 'laws.FnExactCheck', WHERE WHAT IT READS IS OF BULK AT MOST 1048576: true; the input reads as it did. -/
def fnExactCheckUptoRow : OpenClaim := { program := "ytkkfmjpbiimkbaagreat", sum := "72f6a774c716b2849f0ddb56949b84ad7cabc54970c3c3073e3a3a9997268656", func := "loop.example/g00489/laws.FnExactCheck", spec := "fnExactCheck", unfollowed := true, recurses := true, apart := false, narrowed := true }
def FnExactCheckUptoSaid : Prop := fnExactCheckUptoRow.holds Tryz.pinned (OpenSpec.upto fnExactCheckSpec)

/-- 'laws.FnExactFeasible', WHERE WHAT IT READS IS OF BULK AT MOST 1048576: true; the input reads as it did. -/
def fnExactFeasibleUptoRow : OpenClaim := { program := "ytkkfmjpbiimkbaagreat", sum := "72f6a774c716b2849f0ddb56949b84ad7cabc54970c3c3073e3a3a9997268656", func := "loop.example/g00489/laws.FnExactFeasible", spec := "fnExactFeasible", unfollowed := true, recurses := true, apart := false, narrowed := true }
def FnExactFeasibleUptoSaid : Prop := fnExactFeasibleUptoRow.holds Tryz.pinned (OpenSpec.upto fnExactFeasibleSpec)

/-- 'laws.FnExactShuffled', WHERE WHAT IT READS IS OF BULK AT MOST 1048576: true; the input reads as it did. -/
def fnExactShuffledUptoRow : OpenClaim := { program := "ytkkfmjpbiimkbaagreat", sum := "72f6a774c716b2849f0ddb56949b84ad7cabc54970c3c3073e3a3a9997268656", func := "loop.example/g00489/laws.FnExactShuffled", spec := "fnExactShuffled", unfollowed := true, recurses := true, apart := false, narrowed := true }
def FnExactShuffledUptoSaid : Prop := fnExactShuffledUptoRow.holds Tryz.pinned (OpenSpec.upto fnExactShuffledSpec)

/-- 'laws.FnExactSwapped', WHERE WHAT IT READS IS OF BULK AT MOST 1048576: true; the input reads as it did. -/
def fnExactSwappedUptoRow : OpenClaim := { program := "ytkkfmjpbiimkbaagreat", sum := "72f6a774c716b2849f0ddb56949b84ad7cabc54970c3c3073e3a3a9997268656", func := "loop.example/g00489/laws.FnExactSwapped", spec := "fnExactSwapped", unfollowed := true, recurses := true, apart := false, narrowed := true }
def FnExactSwappedUptoSaid : Prop := fnExactSwappedUptoRow.holds Tryz.pinned (OpenSpec.upto fnExactSwappedSpec)

/-- 'laws.FnExactDropped', WHERE WHAT IT READS IS OF BULK AT MOST 1048576: true; the input reads as it did. -/
def fnExactDroppedUptoRow : OpenClaim := { program := "ytkkfmjpbiimkbaagreat", sum := "72f6a774c716b2849f0ddb56949b84ad7cabc54970c3c3073e3a3a9997268656", func := "loop.example/g00489/laws.FnExactDropped", spec := "fnExactDropped", unfollowed := true, recurses := true, apart := false, narrowed := true }
def FnExactDroppedUptoSaid : Prop := fnExactDroppedUptoRow.holds Tryz.pinned (OpenSpec.upto fnExactDroppedSpec)

/-- 'laws.FnChecked', WHERE WHAT IT READS IS OF BULK AT MOST 1048576: true; the input reads as it did. -/
def fnCheckedUptoRow : OpenClaim := { program := "ytkkfmjpbiimkbaagreat", sum := "72f6a774c716b2849f0ddb56949b84ad7cabc54970c3c3073e3a3a9997268656", func := "loop.example/g00489/laws.FnChecked", spec := "fnChecked", unfollowed := true, recurses := true, apart := false, narrowed := true }
def FnCheckedUptoSaid : Prop := fnCheckedUptoRow.holds Tryz.pinned (OpenSpec.upto fnCheckedSpec)

/-- 'laws.FnNoMix', WHERE WHAT IT READS IS OF BULK AT MOST 1048576: true; the input reads as it did. -/
def fnNoMixUptoRow : OpenClaim := { program := "ytkkfmjpbiimkbaagreat", sum := "72f6a774c716b2849f0ddb56949b84ad7cabc54970c3c3073e3a3a9997268656", func := "loop.example/g00489/laws.FnNoMix", spec := "fnNoMix", unfollowed := true, recurses := true, apart := false, narrowed := true }
def FnNoMixUptoSaid : Prop := fnNoMixUptoRow.holds Tryz.pinned (OpenSpec.upto fnNoMixSpec)

/-- 'laws.FnFill', WHERE WHAT IT READS IS OF BULK AT MOST 1048576: true; the input reads as it did. -/
def fnFillUptoRow : OpenClaim := { program := "ytkkfmjpbiimkbaagreat", sum := "72f6a774c716b2849f0ddb56949b84ad7cabc54970c3c3073e3a3a9997268656", func := "loop.example/g00489/laws.FnFill", spec := "fnFill", unfollowed := true, recurses := true, apart := false, narrowed := true }
def FnFillUptoSaid : Prop := fnFillUptoRow.holds Tryz.pinned (OpenSpec.upto fnFillSpec)

end Rows
end Go.Proofs.YtkkfmjpbiimkbaaGreat
