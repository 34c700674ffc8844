/-
  No cell of these rows narrows 'for every input' (looked for: loops, veiled, ifaces, maps, wideKeys, modest, calm, conditions, laid).
  DERIVED. THE GIVEN ROWS OF THIS SEAT. 3 by the template 'for every input the law returns true; each argument reads behind the call as it read before'; 0 by the template 'total and deterministic' (their statements: YtpcmapfabndggaaGreatTotals.lean).
  GIVEN WITH THE SEED: the statements are not yours to turn. If you find one false, say at which input.
  Laid BY PROGRAM, IN A SANDBOX (cutbox-rows.mjs): the forced cells as the released guide's own fill.sh prints them over the translation ef4c22afa795f76f… (all of the seat's roots in one cut). By AI agents, Wed Nov 11 2026. No macro, syntax, notation, axiom, sorry.
-/
import Derived.Test.YtpcmapfabndggaaGreatChecked
import GoSem.Claim
import GoSem.ClaimJoined
import GoSem.ClaimMapViews
import Derived.JoinedTies
import Derived.KernelRfl
namespace Go.Proofs.YtpcmapfabndggaaGreat
/- THE CELL 'sum', in the pinned program and in every row, IS THE sha256 OF THE DUMP (.gsa) THAT YtpcmapfabndggaaGreatProg.lean LOADS. Nothing in Lean hashes anything: it is a label: what it is worth is what the hold of that sum in a sandbox is worth. -/
noncomputable def Tryz.pinned : Pinned := { name := "ytpcmapfabndggaagreat", sum := "ef4c22afa795f76f4a1a4a97fb460949d2e55b7a70709d23ad0a315e29626c0f", checked := Tryz.checked }
namespace Rows
def none {H : Type} : Left H := { results := [], args := [] }

/-- 'laws.FnDropped': WHATEVER THE INPUT: true; the input reads as it did. -/
def fnDroppedSpec : ChangeSpec := { name := "fnDropped", fn := fun _ => fun
  | [d] => { results := [.lit (.bool true)], args := [d] }
  | _ => none }
def fnDroppedRow : OpenClaim := { program := "ytpcmapfabndggaagreat", sum := "ef4c22afa795f76f4a1a4a97fb460949d2e55b7a70709d23ad0a315e29626c0f", func := "loop.example/g00489/laws.FnDropped", spec := "fnDropped", unfollowed := true, recurses := true, apart := false }
def FnDroppedSaid : Prop := fnDroppedRow.holds Tryz.pinned (OpenSpec.ofChange fnDroppedSpec)

/-- ITS FALSE NEIGHBOUR: 'it returns false'. Refute it at one input. -/
def fnDroppedWrong : ChangeSpec := { name := "fnDropped", fn := fun _ => fun
  | [d] => { results := [.lit (.bool false)], args := [d] }
  | _ => none }
def FnDroppedWrongFalsely : Prop := fnDroppedRow.holds Tryz.pinned (OpenSpec.ofChange fnDroppedWrong)

/-- 'laws.FnBothWays': WHATEVER THE INPUT: true; the input reads as it did. -/
def fnBothWaysSpec : ChangeSpec := { name := "fnBothWays", fn := fun _ => fun
  | [d] => { results := [.lit (.bool true)], args := [d] }
  | _ => none }
def fnBothWaysRow : OpenClaim := { program := "ytpcmapfabndggaagreat", sum := "ef4c22afa795f76f4a1a4a97fb460949d2e55b7a70709d23ad0a315e29626c0f", func := "loop.example/g00489/laws.FnBothWays", spec := "fnBothWays", unfollowed := true, recurses := true, apart := false }
def FnBothWaysSaid : Prop := fnBothWaysRow.holds Tryz.pinned (OpenSpec.ofChange fnBothWaysSpec)

/-- ITS FALSE NEIGHBOUR: 'it returns false'. Refute it at one input. -/
def fnBothWaysWrong : ChangeSpec := { name := "fnBothWays", fn := fun _ => fun
  | [d] => { results := [.lit (.bool false)], args := [d] }
  | _ => none }
def FnBothWaysWrongFalsely : Prop := fnBothWaysRow.holds Tryz.pinned (OpenSpec.ofChange fnBothWaysWrong)

/-- 'laws.FnTampered': WHATEVER THE INPUT: true; the input reads as it did. -/
def fnTamperedSpec : ChangeSpec := { name := "fnTampered", fn := fun _ => fun
  | [d] => { results := [.lit (.bool true)], args := [d] }
  | _ => none }
def fnTamperedRow : OpenClaim := { program := "ytpcmapfabndggaagreat", sum := "ef4c22afa795f76f4a1a4a97fb460949d2e55b7a70709d23ad0a315e29626c0f", func := "loop.example/g00489/laws.FnTampered", spec := "fnTampered", unfollowed := true, recurses := true, apart := false }
def FnTamperedSaid : Prop := fnTamperedRow.holds Tryz.pinned (OpenSpec.ofChange fnTamperedSpec)

/-- ITS FALSE NEIGHBOUR: 'it returns false'. Refute it at one input. -/
def fnTamperedWrong : ChangeSpec := { name := "fnTampered", fn := fun _ => fun
  | [d] => { results := [.lit (.bool false)], args := [d] }
  | _ => none }
def FnTamperedWrongFalsely : Prop := fnTamperedRow.holds Tryz.pinned (OpenSpec.ofChange fnTamperedWrong)

/- THE SECOND FORM. 'bulk': how many values and letters a reading holds, each counted each time it is reached (what is shared counts as often as it is met; a slice's spare places count too). A statement '..UptoSaid' is the law's where the arguments, and the package variables that the reading takes, are together of bulk at most 1048576: NARROWER than '..Said'. Prove '..Said' where nothing that the law and all that it calls make is longer than what came in: it says more and counts as full. Else prove '..UptoSaid'. A law counts once. -/
mutual
def uptoBulk {H : Type} : DataW H → Nat
  | .lit (.string bytes) => bytes.length + 1
  | .lit _ => 1
  | .nil => 1
  | .ptr d => uptoBulk d + 1
  | .slice elems spare => uptoBulkAll elems + uptoBulkAll spare + 1
  | .agg parts => uptoBulkAll parts + 1
  | .iface _ d => uptoBulk d + 1
  | .map entries => uptoBulkEntries entries + 1
  | .held _ => 1
def uptoBulkAll {H : Type} : List (DataW H) → Nat
  | [] => 0
  | d :: r => uptoBulk d + uptoBulkAll r
def uptoBulkEntries {H : Type} : List (Lit × DataW H) → Nat
  | [] => 0
  | x :: r => uptoBulkEntry x + uptoBulkEntries r
def uptoBulkEntry {H : Type} : Lit × DataW H → Nat
  | (.string bytes, d) => bytes.length + uptoBulk d + 1
  | (_, d) => uptoBulk d + 1
 end
def uptoSmall : (H : Type) → List (DataW H) → Bool := fun _ ds => decide (uptoBulkAll ds ≤ 1048576)
def OpenSpec.upto (s : _root_.Go.ChangeSpec) : _root_.Go.OpenSpec := { _root_.Go.OpenSpec.ofChange s with cond := some uptoSmall }

/-- 'laws.FnDropped', WHERE WHAT IT READS IS OF BULK AT MOST 1048576: true; the input reads as it did. -/
def fnDroppedUptoRow : OpenClaim := { program := "ytpcmapfabndggaagreat", sum := "ef4c22afa795f76f4a1a4a97fb460949d2e55b7a70709d23ad0a315e29626c0f", func := "loop.example/g00489/laws.FnDropped", spec := "fnDropped", unfollowed := true, recurses := true, apart := false, narrowed := true }
def FnDroppedUptoSaid : Prop := fnDroppedUptoRow.holds Tryz.pinned (OpenSpec.upto fnDroppedSpec)

/-- 'laws.FnBothWays', WHERE WHAT IT READS IS OF BULK AT MOST 1048576: true; the input reads as it did. -/
def fnBothWaysUptoRow : OpenClaim := { program := "ytpcmapfabndggaagreat", sum := "ef4c22afa795f76f4a1a4a97fb460949d2e55b7a70709d23ad0a315e29626c0f", func := "loop.example/g00489/laws.FnBothWays", spec := "fnBothWays", unfollowed := true, recurses := true, apart := false, narrowed := true }
def FnBothWaysUptoSaid : Prop := fnBothWaysUptoRow.holds Tryz.pinned (OpenSpec.upto fnBothWaysSpec)

/-- 'laws.FnTampered', WHERE WHAT IT READS IS OF BULK AT MOST 1048576: true; the input reads as it did. -/
def fnTamperedUptoRow : OpenClaim := { program := "ytpcmapfabndggaagreat", sum := "ef4c22afa795f76f4a1a4a97fb460949d2e55b7a70709d23ad0a315e29626c0f", func := "loop.example/g00489/laws.FnTampered", spec := "fnTampered", unfollowed := true, recurses := true, apart := false, narrowed := true }
def FnTamperedUptoSaid : Prop := fnTamperedUptoRow.holds Tryz.pinned (OpenSpec.upto fnTamperedSpec)

end Rows
end Go.Proofs.YtpcmapfabndggaaGreat
