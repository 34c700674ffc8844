/-
  No cell of these rows narrows 'for every input' (looked for: loops, veiled, ifaces, maps, wideKeys, modest, calm, conditions, laid).
  DERIVED. THE GIVEN ROWS OF THIS SEAT. 11 by the template 'for every input the law returns true; each argument reads behind the call as it read before'; 0 by the template 'total and deterministic' (their statements: YtlmibnlfkmiikaaGreatTotals.lean).
  GIVEN WITH THE SEED: the statements are not yours to turn. If you find one false, say at which input.
  Laid BY PROGRAM, IN A SANDBOX (cutbox-rows.mjs): the forced cells as the released guide's own fill.sh prints them over the translation bcdc84af7b685c16… (all of the seat's roots in one cut). By AI agents, Wed Nov 11 2026. No macro, syntax, notation, axiom, sorry.
-/
import Derived.Test.YtlmibnlfkmiikaaGreatChecked
import GoSem.Claim
import GoSem.ClaimJoined
import GoSem.ClaimMapViews
import Derived.JoinedTies
import Derived.KernelRfl
namespace Go.Proofs.YtlmibnlfkmiikaaGreat
/- THE CELL 'sum', in the pinned program and in every row, IS THE sha256 OF THE DUMP (.gsa) THAT YtlmibnlfkmiikaaGreatProg.lean LOADS. Nothing in Lean hashes anything: it is a label: what it is worth is what the hold of that sum in a sandbox is worth. -/
noncomputable def Tryz.pinned : Pinned := { name := "ytlmibnlfkmiikaagreat", sum := "bcdc84af7b685c1679bcb6cd6bc60263be9a4ec97faa1db28e173f5cd84d5a73", checked := Tryz.checked }
namespace Rows
def none {H : Type} : Left H := { results := [], args := [] }

/-- 'laws.FnFill': WHATEVER THE INPUT: true; the input reads as it did. -/
def fnFillSpec : ChangeSpec := { name := "fnFill", fn := fun _ => fun
  | [d] => { results := [.lit (.bool true)], args := [d] }
  | _ => none }
def fnFillRow : OpenClaim := { program := "ytlmibnlfkmiikaagreat", sum := "bcdc84af7b685c1679bcb6cd6bc60263be9a4ec97faa1db28e173f5cd84d5a73", func := "loop.example/g00489/laws.FnFill", spec := "fnFill", unfollowed := true, recurses := true, apart := false }
def FnFillSaid : Prop := fnFillRow.holds Tryz.pinned (OpenSpec.ofChange fnFillSpec)

/-- ITS FALSE NEIGHBOUR: 'it returns false'. Refute it at one input. -/
def fnFillWrong : ChangeSpec := { name := "fnFill", fn := fun _ => fun
  | [d] => { results := [.lit (.bool false)], args := [d] }
  | _ => none }
def FnFillWrongFalsely : Prop := fnFillRow.holds Tryz.pinned (OpenSpec.ofChange fnFillWrong)

/-- 'laws.FnExactSqueeze': WHATEVER THE INPUT: true; the input reads as it did. -/
def fnExactSqueezeSpec : ChangeSpec := { name := "fnExactSqueeze", fn := fun _ => fun
  | [d1, d2] => { results := [.lit (.bool true)], args := [d1, d2] }
  | _ => none }
def fnExactSqueezeRow : OpenClaim := { program := "ytlmibnlfkmiikaagreat", sum := "bcdc84af7b685c1679bcb6cd6bc60263be9a4ec97faa1db28e173f5cd84d5a73", func := "loop.example/g00489/laws.FnExactSqueeze", spec := "fnExactSqueeze", unfollowed := true, recurses := true, apart := false }
def FnExactSqueezeSaid : Prop := fnExactSqueezeRow.holds Tryz.pinned (OpenSpec.ofChange fnExactSqueezeSpec)

/-- ITS FALSE NEIGHBOUR: 'it returns false'. Refute it at one input. -/
def fnExactSqueezeWrong : ChangeSpec := { name := "fnExactSqueeze", fn := fun _ => fun
  | [d1, d2] => { results := [.lit (.bool false)], args := [d1, d2] }
  | _ => none }
def FnExactSqueezeWrongFalsely : Prop := fnExactSqueezeRow.holds Tryz.pinned (OpenSpec.ofChange fnExactSqueezeWrong)

/-- 'laws.FnExactCountIn': WHATEVER THE INPUT: true; the input reads as it did. -/
def fnExactCountInSpec : ChangeSpec := { name := "fnExactCountIn", fn := fun _ => fun
  | [d1, d2] => { results := [.lit (.bool true)], args := [d1, d2] }
  | _ => none }
def fnExactCountInRow : OpenClaim := { program := "ytlmibnlfkmiikaagreat", sum := "bcdc84af7b685c1679bcb6cd6bc60263be9a4ec97faa1db28e173f5cd84d5a73", func := "loop.example/g00489/laws.FnExactCountIn", spec := "fnExactCountIn", unfollowed := true, recurses := true, apart := false }
def FnExactCountInSaid : Prop := fnExactCountInRow.holds Tryz.pinned (OpenSpec.ofChange fnExactCountInSpec)

/-- ITS FALSE NEIGHBOUR: 'it returns false'. Refute it at one input. -/
def fnExactCountInWrong : ChangeSpec := { name := "fnExactCountIn", fn := fun _ => fun
  | [d1, d2] => { results := [.lit (.bool false)], args := [d1, d2] }
  | _ => none }
def FnExactCountInWrongFalsely : Prop := fnExactCountInRow.holds Tryz.pinned (OpenSpec.ofChange fnExactCountInWrong)

/-- 'laws.FnExactOurs': WHATEVER THE INPUT: true; the input reads as it did. -/
def fnExactOursSpec : ChangeSpec := { name := "fnExactOurs", fn := fun _ => fun
  | [d] => { results := [.lit (.bool true)], args := [d] }
  | _ => none }
def fnExactOursRow : OpenClaim := { program := "ytlmibnlfkmiikaagreat", sum := "bcdc84af7b685c1679bcb6cd6bc60263be9a4ec97faa1db28e173f5cd84d5a73", func := "loop.example/g00489/laws.FnExactOurs", spec := "fnExactOurs", unfollowed := true, recurses := true, apart := false }
def FnExactOursSaid : Prop := fnExactOursRow.holds Tryz.pinned (OpenSpec.ofChange fnExactOursSpec)

/-- ITS FALSE NEIGHBOUR: 'it returns false'. Refute it at one input. -/
def fnExactOursWrong : ChangeSpec := { name := "fnExactOurs", fn := fun _ => fun
  | [d] => { results := [.lit (.bool false)], args := [d] }
  | _ => none }
def FnExactOursWrongFalsely : Prop := fnExactOursRow.holds Tryz.pinned (OpenSpec.ofChange fnExactOursWrong)

/-- 'laws.FnExactCheck': WHATEVER THE INPUT: true; the input reads as it did. -/
def fnExactCheckSpec : ChangeSpec := { name := "fnExactCheck", fn := fun _ => fun
  | [d1, d2] => { results := [.lit (.bool true)], args := [d1, d2] }
  | _ => none }
def fnExactCheckRow : OpenClaim := { program := "ytlmibnlfkmiikaagreat", sum := "bcdc84af7b685c1679bcb6cd6bc60263be9a4ec97faa1db28e173f5cd84d5a73", func := "loop.example/g00489/laws.FnExactCheck", spec := "fnExactCheck", unfollowed := true, recurses := true, apart := false }
def FnExactCheckSaid : Prop := fnExactCheckRow.holds Tryz.pinned (OpenSpec.ofChange fnExactCheckSpec)

/-- ITS FALSE NEIGHBOUR: 'it returns false'. Refute it at one input. -/
def fnExactCheckWrong : ChangeSpec := { name := "fnExactCheck", fn := fun _ => fun
  | [d1, d2] => { results := [.lit (.bool false)], args := [d1, d2] }
  | _ => none }
def FnExactCheckWrongFalsely : Prop := fnExactCheckRow.holds Tryz.pinned (OpenSpec.ofChange fnExactCheckWrong)

/-- 'laws.FnExactFeasible': WHATEVER THE INPUT: true; the input reads as it did. -/
def fnExactFeasibleSpec : ChangeSpec := { name := "fnExactFeasible", fn := fun _ => fun
  | [d1, d2] => { results := [.lit (.bool true)], args := [d1, d2] }
  | _ => none }
def fnExactFeasibleRow : OpenClaim := { program := "ytlmibnlfkmiikaagreat", sum := "bcdc84af7b685c1679bcb6cd6bc60263be9a4ec97faa1db28e173f5cd84d5a73", func := "loop.example/g00489/laws.FnExactFeasible", spec := "fnExactFeasible", unfollowed := true, recurses := true, apart := false }
def FnExactFeasibleSaid : Prop := fnExactFeasibleRow.holds Tryz.pinned (OpenSpec.ofChange fnExactFeasibleSpec)

/-- ITS FALSE NEIGHBOUR: 'it returns false'. Refute it at one input. -/
def fnExactFeasibleWrong : ChangeSpec := { name := "fnExactFeasible", fn := fun _ => fun
  | [d1, d2] => { results := [.lit (.bool false)], args := [d1, d2] }
  | _ => none }
def FnExactFeasibleWrongFalsely : Prop := fnExactFeasibleRow.holds Tryz.pinned (OpenSpec.ofChange fnExactFeasibleWrong)

/-- 'laws.FnExactFront': WHATEVER THE INPUT: true; the input reads as it did. -/
def fnExactFrontSpec : ChangeSpec := { name := "fnExactFront", fn := fun _ => fun
  | [d1, d2] => { results := [.lit (.bool true)], args := [d1, d2] }
  | _ => none }
def fnExactFrontRow : OpenClaim := { program := "ytlmibnlfkmiikaagreat", sum := "bcdc84af7b685c1679bcb6cd6bc60263be9a4ec97faa1db28e173f5cd84d5a73", func := "loop.example/g00489/laws.FnExactFront", spec := "fnExactFront", unfollowed := true, recurses := true, apart := false }
def FnExactFrontSaid : Prop := fnExactFrontRow.holds Tryz.pinned (OpenSpec.ofChange fnExactFrontSpec)

/-- ITS FALSE NEIGHBOUR: 'it returns false'. Refute it at one input. -/
def fnExactFrontWrong : ChangeSpec := { name := "fnExactFront", fn := fun _ => fun
  | [d1, d2] => { results := [.lit (.bool false)], args := [d1, d2] }
  | _ => none }
def FnExactFrontWrongFalsely : Prop := fnExactFrontRow.holds Tryz.pinned (OpenSpec.ofChange fnExactFrontWrong)

/-- 'laws.FnExactMirrored': WHATEVER THE INPUT: true; the input reads as it did. -/
def fnExactMirroredSpec : ChangeSpec := { name := "fnExactMirrored", fn := fun _ => fun
  | [d1, d2] => { results := [.lit (.bool true)], args := [d1, d2] }
  | _ => none }
def fnExactMirroredRow : OpenClaim := { program := "ytlmibnlfkmiikaagreat", sum := "bcdc84af7b685c1679bcb6cd6bc60263be9a4ec97faa1db28e173f5cd84d5a73", func := "loop.example/g00489/laws.FnExactMirrored", spec := "fnExactMirrored", unfollowed := true, recurses := true, apart := false }
def FnExactMirroredSaid : Prop := fnExactMirroredRow.holds Tryz.pinned (OpenSpec.ofChange fnExactMirroredSpec)

/-- ITS FALSE NEIGHBOUR: 'it returns false'. Refute it at one input. -/
def fnExactMirroredWrong : ChangeSpec := { name := "fnExactMirrored", fn := fun _ => fun
  | [d1, d2] => { results := [.lit (.bool false)], args := [d1, d2] }
  | _ => none }
def FnExactMirroredWrongFalsely : Prop := fnExactMirroredRow.holds Tryz.pinned (OpenSpec.ofChange fnExactMirroredWrong)

/-- 'laws.FnExactShuffled': WHATEVER THE INPUT: true; the input reads as it did. -/
def fnExactShuffledSpec : ChangeSpec := { name := "fnExactShuffled", fn := fun _ => fun
  | [d1, d2, d3] => { results := [.lit (.bool true)], args := [d1, d2, d3] }
  | _ => none }
def fnExactShuffledRow : OpenClaim := { program := "ytlmibnlfkmiikaagreat", sum := "bcdc84af7b685c1679bcb6cd6bc60263be9a4ec97faa1db28e173f5cd84d5a73", func := "loop.example/g00489/laws.FnExactShuffled", spec := "fnExactShuffled", unfollowed := true, recurses := true, apart := false }
def FnExactShuffledSaid : Prop := fnExactShuffledRow.holds Tryz.pinned (OpenSpec.ofChange fnExactShuffledSpec)

/-- ITS FALSE NEIGHBOUR: 'it returns false'. Refute it at one input. -/
def fnExactShuffledWrong : ChangeSpec := { name := "fnExactShuffled", fn := fun _ => fun
  | [d1, d2, d3] => { results := [.lit (.bool false)], args := [d1, d2, d3] }
  | _ => none }
def FnExactShuffledWrongFalsely : Prop := fnExactShuffledRow.holds Tryz.pinned (OpenSpec.ofChange fnExactShuffledWrong)

/-- 'laws.FnExactSwapped': WHATEVER THE INPUT: true; the input reads as it did. -/
def fnExactSwappedSpec : ChangeSpec := { name := "fnExactSwapped", fn := fun _ => fun
  | [d1, d2, d3, d4] => { results := [.lit (.bool true)], args := [d1, d2, d3, d4] }
  | _ => none }
def fnExactSwappedRow : OpenClaim := { program := "ytlmibnlfkmiikaagreat", sum := "bcdc84af7b685c1679bcb6cd6bc60263be9a4ec97faa1db28e173f5cd84d5a73", func := "loop.example/g00489/laws.FnExactSwapped", spec := "fnExactSwapped", unfollowed := true, recurses := true, apart := false }
def FnExactSwappedSaid : Prop := fnExactSwappedRow.holds Tryz.pinned (OpenSpec.ofChange fnExactSwappedSpec)

/-- ITS FALSE NEIGHBOUR: 'it returns false'. Refute it at one input. -/
def fnExactSwappedWrong : ChangeSpec := { name := "fnExactSwapped", fn := fun _ => fun
  | [d1, d2, d3, d4] => { results := [.lit (.bool false)], args := [d1, d2, d3, d4] }
  | _ => none }
def FnExactSwappedWrongFalsely : Prop := fnExactSwappedRow.holds Tryz.pinned (OpenSpec.ofChange fnExactSwappedWrong)

/-- 'laws.FnExactDropped': WHATEVER THE INPUT: true; the input reads as it did. -/
def fnExactDroppedSpec : ChangeSpec := { name := "fnExactDropped", fn := fun _ => fun
  | [d1, d2] => { results := [.lit (.bool true)], args := [d1, d2] }
  | _ => none }
def fnExactDroppedRow : OpenClaim := { program := "ytlmibnlfkmiikaagreat", sum := "bcdc84af7b685c1679bcb6cd6bc60263be9a4ec97faa1db28e173f5cd84d5a73", func := "loop.example/g00489/laws.FnExactDropped", spec := "fnExactDropped", unfollowed := true, recurses := true, apart := false }
def FnExactDroppedSaid : Prop := fnExactDroppedRow.holds Tryz.pinned (OpenSpec.ofChange fnExactDroppedSpec)

/-- ITS FALSE NEIGHBOUR: 'it returns false'. Refute it at one input. -/
def fnExactDroppedWrong : ChangeSpec := { name := "fnExactDropped", fn := fun _ => fun
  | [d1, d2] => { results := [.lit (.bool false)], args := [d1, d2] }
  | _ => none }
def FnExactDroppedWrongFalsely : Prop := fnExactDroppedRow.holds Tryz.pinned (OpenSpec.ofChange fnExactDroppedWrong)

/- THE SECOND FORM. 'bulk': how many values and letters a reading holds, each counted each time it is reached (what is shared counts as often as it is met; a slice's spare places count too). A statement '..UptoSaid' is the law's where the arguments, and the package variables that the reading takes, are together of bulk at most 1048576: NARROWER than '..Said'. Prove '..Said' where nothing that the law and all that it calls make is longer than what came in: it says more and counts as full. Else prove '..UptoSaid'. A law counts once. -/
mutual
def uptoBulk {H : Type} : DataW H → Nat
  | .lit (.string bytes) => bytes.length + 1
  | .lit _ => 1
  | .nil => 1
  | .ptr d => uptoBulk d + 1
  | .slice elems spare => uptoBulkAll elems + uptoBulkAll spare + 1
  | .agg parts => uptoBulkAll parts + 1
  | .iface _ d => uptoBulk d + 1
  | .map entries => uptoBulkEntries entries + 1
  | .held _ => 1
def uptoBulkAll {H : Type} : List (DataW H) → Nat
  | [] => 0
  | d :: r => uptoBulk d + uptoBulkAll r
def uptoBulkEntries {H : Type} : List (Lit × DataW H) → Nat
  | [] => 0
  | x :: r => uptoBulkEntry x + uptoBulkEntries r
def uptoBulkEntry {H : Type} : Lit × DataW H → Nat
  | (.string bytes, d) => bytes.length + uptoBulk d + 1
  | (_, d) => uptoBulk d + 1
 end
def uptoSmall : (H : Type) → List (DataW H) → Bool := fun _ ds => decide (uptoBulkAll ds ≤ 1048576)
def OpenSpec.upto (s : _root_.Go.ChangeSpec) : _root_.Go.OpenSpec := { _root_.Go.OpenSpec.ofChange s with cond := some uptoSmall }

/-- 'laws.FnFill', WHERE WHAT IT READS IS OF BULK AT MOST 1048576: true; the input reads as it did. -/
def fnFillUptoRow : OpenClaim := { program := "ytlmibnlfkmiikaagreat", sum := "bcdc84af7b685c1679bcb6cd6bc60263be9a4ec97faa1db28e173f5cd84d5a73", func := "loop.example/g00489/laws.FnFill", spec := "fnFill", unfollowed := true, recurses := true, apart := false, narrowed := true }
def FnFillUptoSaid : Prop := fnFillUptoRow.holds Tryz.pinned (OpenSpec.upto fnFillSpec)

/-- 'laws.FnExactSqueeze', WHERE WHAT IT READS IS OF BULK AT MOST 1048576: true; the input reads as it did. -/
def fnExactSqueezeUptoRow : OpenClaim := { program := "ytlmibnlfkmiikaagreat", sum := "bcdc84af7b685c1679bcb6cd6bc60263be9a4ec97faa1db28e173f5cd84d5a73", func := "loop.example/g00489/laws.FnExactSqueeze", spec := "fnExactSqueeze", unfollowed := true, recurses := true, apart := false, narrowed := true }
def FnExactSqueezeUptoSaid : Prop := fnExactSqueezeUptoRow.holds Tryz.pinned (OpenSpec.upto fnExactSqueezeSpec)

/-- 'laws.FnExactCountIn', WHERE WHAT IT READS IS OF BULK AT MOST 1048576: true; the input reads as it did. -/
def fnExactCountInUptoRow : OpenClaim := { program := "ytlmibnlfkmiikaagreat", sum := "bcdc84af7b685c1679bcb6cd6bc60263be9a4ec97faa1db28e173f5cd84d5a73", func := "loop.example/g00489/laws.FnExactCountIn", spec := "fnExactCountIn", unfollowed := true, recurses := true, apart := false, narrowed := true }
def FnExactCountInUptoSaid : Prop := fnExactCountInUptoRow.holds Tryz.pinned (OpenSpec.upto fnExactCountInSpec)

/-- 'laws.FnExactOurs', WHERE WHAT IT READS IS OF BULK AT MOST 1048576: true; the input reads as it did. -/
def fnExactOursUptoRow : OpenClaim := { program := "ytlmibnlfkmiikaagreat", sum := "bcdc84af7b685c1679bcb6cd6bc60263be9a4ec97faa1db28e173f5cd84d5a73", func := "loop.example/g00489/laws.FnExactOurs", spec := "fnExactOurs", unfollowed := true, recurses := true, apart := false, narrowed := true }
def FnExactOursUptoSaid : Prop := fnExactOursUptoRow.holds Tryz.pinned (OpenSpec.upto fnExactOursSpec)

/-- 'laws.FnExactCheck', WHERE WHAT IT READS IS OF BULK AT MOST 1048576: true; the input reads as it did. -/
def fnExactCheckUptoRow : OpenClaim := { program := "ytlmibnlfkmiikaagreat", sum := "bcdc84af7b685c1679bcb6cd6bc60263be9a4ec97faa1db28e173f5cd84d5a73", func := "loop.example/g00489/laws.FnExactCheck", spec := "fnExactCheck", unfollowed := true, recurses := true, apart := false, narrowed := true }
def FnExactCheckUptoSaid : Prop := fnExactCheckUptoRow.holds Tryz.pinned (OpenSpec.upto fnExactCheckSpec)

/-- 'laws.FnExactFeasible', WHERE WHAT IT READS IS OF BULK AT MOST 1048576: true; the input reads as it did. -/
def fnExactFeasibleUptoRow : OpenClaim := { program := "ytlmibnlfkmiikaagreat", sum := "bcdc84af7b685c1679bcb6cd6bc60263be9a4ec97faa1db28e173f5cd84d5a73", func := "loop.example/g00489/laws.FnExactFeasible", spec := "fnExactFeasible", unfollowed := true, recurses := true, apart := false, narrowed := true }
def FnExactFeasibleUptoSaid : Prop := fnExactFeasibleUptoRow.holds Tryz.pinned (OpenSpec.upto fnExactFeasibleSpec)

/-- 'laws.FnExactFront', WHERE WHAT IT READS IS OF BULK AT MOST 1048576: true; the input reads as it did. -/
def fnExactFrontUptoRow : OpenClaim := { program := "ytlmibnlfkmiikaagreat", sum := "bcdc84af7b685c1679bcb6cd6bc60263be9a4ec97faa1db28e173f5cd84d5a73", func := "loop.example/g00489/laws.FnExactFront", spec := "fnExactFront", unfollowed := true, recurses := true, apart := false, narrowed := true }
def FnExactFrontUptoSaid : Prop := fnExactFrontUptoRow.holds Tryz.pinned (OpenSpec.upto fnExactFrontSpec)

/-- 'laws.FnExactMirrored', WHERE WHAT IT READS IS OF BULK AT MOST 1048576: true; the input reads as it did. -/
def fnExactMirroredUptoRow : OpenClaim := { program := "ytlmibnlfkmiikaagreat", sum := "bcdc84af7b685c1679bcb6cd6bc60263be9a4ec97faa1db28e173f5cd84d5a73", func := "loop.example/g00489/laws.FnExactMirrored", spec := "fnExactMirrored", unfollowed := true, recurses := true, apart := false, narrowed := true }
def FnExactMirroredUptoSaid : Prop := fnExactMirroredUptoRow.holds Tryz.pinned (OpenSpec.upto fnExactMirroredSpec)

/-- 'laws.FnExactShuffled', WHERE WHAT IT READS IS OF BULK AT MOST 1048576: true; the input reads as it did. -/
def fnExactShuffledUptoRow : OpenClaim := { program := "ytlmibnlfkmiikaagreat", sum := "bcdc84af7b685c1679bcb6cd6bc60263be9a4ec97faa1db28e173f5cd84d5a73", func := "loop.example/g00489/laws.FnExactShuffled", spec := "fnExactShuffled", unfollowed := true, recurses := true, apart := false, narrowed := true }
def FnExactShuffledUptoSaid : Prop := fnExactShuffledUptoRow.holds Tryz.pinned (OpenSpec.upto fnExactShuffledSpec)

/-- 'laws.FnExactSwapped', WHERE WHAT IT READS IS OF BULK AT MOST 1048576: true; the input reads as it did. -/
def fnExactSwappedUptoRow : OpenClaim := { program := "ytlmibnlfkmiikaagreat", sum := "bcdc84af7b685c1679bcb6cd6bc60263be9a4ec97faa1db28e173f5cd84d5a73", func := "loop.example/g00489/laws.FnExactSwapped", spec := "fnExactSwapped", unfollowed := true, recurses := true, apart := false, narrowed := true }
def FnExactSwappedUptoSaid : Prop := fnExactSwappedUptoRow.holds Tryz.pinned (OpenSpec.upto fnExactSwappedSpec)

/-- 'laws.FnExactDropped', WHERE WHAT IT READS IS OF BULK AT MOST 1048576: true; the input reads as it did. -/
def fnExactDroppedUptoRow : OpenClaim := { program := "ytlmibnlfkmiikaagreat", sum := "bcdc84af7b685c1679bcb6cd6bc60263be9a4ec97faa1db28e173f5cd84d5a73", func := "loop.example/g00489/laws.FnExactDropped", spec := "fnExactDropped", unfollowed := true, recurses := true, apart := false, narrowed := true }
def FnExactDroppedUptoSaid : Prop := fnExactDroppedUptoRow.holds Tryz.pinned (OpenSpec.upto fnExactDroppedSpec)

end Rows
end Go.Proofs.YtlmibnlfkmiikaaGreat
