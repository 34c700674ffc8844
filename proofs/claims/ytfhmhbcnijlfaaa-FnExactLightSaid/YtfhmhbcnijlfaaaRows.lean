/-
  No cell of these rows narrows 'for every input' (looked for: loops, veiled, ifaces, maps, wideKeys, modest, calm, conditions, laid).
  DERIVED. THE GIVEN ROWS OF THIS SEAT. 5 by the template 'for every input the law returns true; each argument reads behind the call as it read before'; 0 by the template 'total and deterministic' (their statements: YtfhmhbcnijlfaaaTotals.lean).
  GIVEN WITH THE SEED: the statements are not yours to turn. If you find one false, say at which input.
  Laid BY PROGRAM, IN A SANDBOX (cutbox-rows.mjs): the forced cells as the released guide's own fill.sh prints them over the translation fe5e84ddf25feab1… (all of the seat's roots in one cut). By AI agents, Wed Nov 11 2026. No macro, syntax, notation, axiom, sorry.
-/
import Derived.Test.YtfhmhbcnijlfaaaChecked
import GoSem.Claim
import GoSem.ClaimJoined
import GoSem.ClaimMapViews
import Derived.JoinedTies
import Derived.KernelRfl
namespace Go.Proofs.Ytfhmhbcnijlfaaa
/- THE CELL 'sum', in the pinned program and in every row, IS THE sha256 OF THE DUMP (.gsa) THAT YtfhmhbcnijlfaaaProg.lean LOADS. Nothing in Lean hashes anything: it is a label: what it is worth is what the hold of that sum in a sandbox is worth. -/
noncomputable def Try.pinned : Pinned := { name := "ytfhmhbcnijlfaaa", sum := "fe5e84ddf25feab17cfaade2fb6c06b6b5a8a7629172ac720cdda9d59fbb7647", checked := Try.checked }
namespace Rows
def none {H : Type} : Left H := { results := [], args := [] }

/-- 'laws.FnExactCheckText': WHATEVER THE INPUT: true; the input reads as it did. -/
def fnExactCheckTextSpec : ChangeSpec := { name := "fnExactCheckText", fn := fun _ => fun
  | [d] => { results := [.lit (.bool true)], args := [d] }
  | _ => none }
def fnExactCheckTextRow : OpenClaim := { program := "ytfhmhbcnijlfaaa", sum := "fe5e84ddf25feab17cfaade2fb6c06b6b5a8a7629172ac720cdda9d59fbb7647", func := "loop.example/g00489/laws.FnExactCheckText", spec := "fnExactCheckText", apart := false }
def FnExactCheckTextSaid : Prop := fnExactCheckTextRow.holds Try.pinned (OpenSpec.ofChange fnExactCheckTextSpec)

/-- ITS FALSE NEIGHBOUR: 'it returns false'. Refute it at one input. -/
def fnExactCheckTextWrong : ChangeSpec := { name := "fnExactCheckText", fn := fun _ => fun
  | [d] => { results := [.lit (.bool false)], args := [d] }
  | _ => none }
def FnExactCheckTextWrongFalsely : Prop := fnExactCheckTextRow.holds Try.pinned (OpenSpec.ofChange fnExactCheckTextWrong)

/-- 'laws.FnExactLabelSum': WHATEVER THE INPUT: true; the input reads as it did. -/
def fnExactLabelSumSpec : ChangeSpec := { name := "fnExactLabelSum", fn := fun _ => fun
  | [d] => { results := [.lit (.bool true)], args := [d] }
  | _ => none }
def fnExactLabelSumRow : OpenClaim := { program := "ytfhmhbcnijlfaaa", sum := "fe5e84ddf25feab17cfaade2fb6c06b6b5a8a7629172ac720cdda9d59fbb7647", func := "loop.example/g00489/laws.FnExactLabelSum", spec := "fnExactLabelSum", apart := false }
def FnExactLabelSumSaid : Prop := fnExactLabelSumRow.holds Try.pinned (OpenSpec.ofChange fnExactLabelSumSpec)

/-- ITS FALSE NEIGHBOUR: 'it returns false'. Refute it at one input. -/
def fnExactLabelSumWrong : ChangeSpec := { name := "fnExactLabelSum", fn := fun _ => fun
  | [d] => { results := [.lit (.bool false)], args := [d] }
  | _ => none }
def FnExactLabelSumWrongFalsely : Prop := fnExactLabelSumRow.holds Try.pinned (OpenSpec.ofChange fnExactLabelSumWrong)

/-- 'laws.FnExactDeepest': WHATEVER THE INPUT: true; the input reads as it did. -/
def fnExactDeepestSpec : ChangeSpec := { name := "fnExactDeepest", fn := fun _ => fun
  | [d] => { results := [.lit (.bool true)], args := [d] }
  | _ => none }
def fnExactDeepestRow : OpenClaim := { program := "ytfhmhbcnijlfaaa", sum := "fe5e84ddf25feab17cfaade2fb6c06b6b5a8a7629172ac720cdda9d59fbb7647", func := "loop.example/g00489/laws.FnExactDeepest", spec := "fnExactDeepest", apart := false }
def FnExactDeepestSaid : Prop := fnExactDeepestRow.holds Try.pinned (OpenSpec.ofChange fnExactDeepestSpec)

/-- ITS FALSE NEIGHBOUR: 'it returns false'. Refute it at one input. -/
def fnExactDeepestWrong : ChangeSpec := { name := "fnExactDeepest", fn := fun _ => fun
  | [d] => { results := [.lit (.bool false)], args := [d] }
  | _ => none }
def FnExactDeepestWrongFalsely : Prop := fnExactDeepestRow.holds Try.pinned (OpenSpec.ofChange fnExactDeepestWrong)

/-- 'laws.FnExactLayersPromise': WHATEVER THE INPUT: true; the input reads as it did. -/
def fnExactLayersPromiseSpec : ChangeSpec := { name := "fnExactLayersPromise", fn := fun _ => fun
  | [d1, d2, d3] => { results := [.lit (.bool true)], args := [d1, d2, d3] }
  | _ => none }
def fnExactLayersPromiseRow : OpenClaim := { program := "ytfhmhbcnijlfaaa", sum := "fe5e84ddf25feab17cfaade2fb6c06b6b5a8a7629172ac720cdda9d59fbb7647", func := "loop.example/g00489/laws.FnExactLayersPromise", spec := "fnExactLayersPromise", unfollowed := true, recurses := true, apart := false }
def FnExactLayersPromiseSaid : Prop := fnExactLayersPromiseRow.holds Try.pinned (OpenSpec.ofChange fnExactLayersPromiseSpec)

/-- ITS FALSE NEIGHBOUR: 'it returns false'. Refute it at one input. -/
def fnExactLayersPromiseWrong : ChangeSpec := { name := "fnExactLayersPromise", fn := fun _ => fun
  | [d1, d2, d3] => { results := [.lit (.bool false)], args := [d1, d2, d3] }
  | _ => none }
def FnExactLayersPromiseWrongFalsely : Prop := fnExactLayersPromiseRow.holds Try.pinned (OpenSpec.ofChange fnExactLayersPromiseWrong)

/-- 'laws.FnExactLight': WHATEVER THE INPUT: true; the input reads as it did. -/
def fnExactLightSpec : ChangeSpec := { name := "fnExactLight", fn := fun _ => fun
  | [d1, d2] => { results := [.lit (.bool true)], args := [d1, d2] }
  | _ => none }
def fnExactLightRow : OpenClaim := { program := "ytfhmhbcnijlfaaa", sum := "fe5e84ddf25feab17cfaade2fb6c06b6b5a8a7629172ac720cdda9d59fbb7647", func := "loop.example/g00489/laws.FnExactLight", spec := "fnExactLight", unfollowed := true, recurses := true, apart := false }
def FnExactLightSaid : Prop := fnExactLightRow.holds Try.pinned (OpenSpec.ofChange fnExactLightSpec)

/-- ITS FALSE NEIGHBOUR: 'it returns false'. Refute it at one input. -/
def fnExactLightWrong : ChangeSpec := { name := "fnExactLight", fn := fun _ => fun
  | [d1, d2] => { results := [.lit (.bool false)], args := [d1, d2] }
  | _ => none }
def FnExactLightWrongFalsely : Prop := fnExactLightRow.holds Try.pinned (OpenSpec.ofChange fnExactLightWrong)

/- THE SECOND FORM. 'bulk': how many values and letters a reading holds, each counted each time it is reached (what is shared counts as often as it is met; a slice's spare places count too). A statement '..UptoSaid' is the law's where the arguments, and the package variables that the reading takes, are together of bulk at most 1048576: NARROWER than '..Said'. Prove '..Said' where nothing that the law and all that it calls make is longer than what came in: it says more and counts as full. Else prove '..UptoSaid'. A law counts once. -/
mutual
def uptoBulk {H : Type} : DataW H → Nat
  | .lit (.string bytes) => bytes.length + 1
  | .lit _ => 1
  | .nil => 1
  | .ptr d => uptoBulk d + 1
  | .slice elems spare => uptoBulkAll elems + uptoBulkAll spare + 1
  | .agg parts => uptoBulkAll parts + 1
  | .iface _ d => uptoBulk d + 1
  | .map entries => uptoBulkEntries entries + 1
  | .held _ => 1
def uptoBulkAll {H : Type} : List (DataW H) → Nat
  | [] => 0
  | d :: r => uptoBulk d + uptoBulkAll r
def uptoBulkEntries {H : Type} : List (Lit × DataW H) → Nat
  | [] => 0
  | x :: r => uptoBulkEntry x + uptoBulkEntries r
def uptoBulkEntry {H : Type} : Lit × DataW H → Nat
  | (.string bytes, d) => bytes.length + uptoBulk d + 1
  | (_, d) => uptoBulk d + 1
 end
def uptoSmall : (H : Type) → List (DataW H) → Bool := fun _ ds => decide (uptoBulkAll ds ≤ 1048576)
def OpenSpec.upto (s : _root_.Go.ChangeSpec) : _root_.Go.OpenSpec := { _root_.Go.OpenSpec.ofChange s with cond := some uptoSmall }

/-- 'laws.FnExactCheckText', WHERE WHAT IT READS IS OF BULK AT MOST 1048576: true; the input reads as it did. -/
def fnExactCheckTextUptoRow : OpenClaim := { program := "ytfhmhbcnijlfaaa", sum := "fe5e84ddf25feab17cfaade2fb6c06b6b5a8a7629172ac720cdda9d59fbb7647", func := "loop.example/g00489/laws.FnExactCheckText", spec := "fnExactCheckText", apart := false, narrowed := true }
def FnExactCheckTextUptoSaid : Prop := fnExactCheckTextUptoRow.holds Try.pinned (OpenSpec.upto fnExactCheckTextSpec)

/-- 'laws.FnExactLabelSum', WHERE WHAT IT READS IS OF BULK AT MOST 1048576: true; the input reads as it did. -/
def fnExactLabelSumUptoRow : OpenClaim := { program := "ytfhmhbcnijlfaaa", sum := "fe5e84ddf25feab17cfaade2fb6c06b6b5a8a7629172ac720cdda9d59fbb7647", func := "loop.example/g00489/laws.FnExactLabelSum", spec := "fnExactLabelSum", apart := false, narrowed := true }
def FnExactLabelSumUptoSaid : Prop := fnExactLabelSumUptoRow.holds Try.pinned (OpenSpec.upto fnExactLabelSumSpec)

/-- 'laws.FnExactDeepest', WHERE WHAT IT READS IS OF BULK AT MOST 1048576: true; the input reads as it did. -/
def fnExactDeepestUptoRow : OpenClaim := { program := "ytfhmhbcnijlfaaa", sum := "fe5e84ddf25feab17cfaade2fb6c06b6b5a8a7629172ac720cdda9d59fbb7647", func := "loop.example/g00489/laws.FnExactDeepest", spec := "fnExactDeepest", apart := false, narrowed := true }
def FnExactDeepestUptoSaid : Prop := fnExactDeepestUptoRow.holds Try.pinned (OpenSpec.upto fnExactDeepestSpec)

/-- 'laws.FnExactLayersPromise', WHERE WHAT IT READS IS OF BULK AT MOST 1048576: true; the input reads as it did. -/
def fnExactLayersPromiseUptoRow : OpenClaim := { program := "ytfhmhbcnijlfaaa", sum := "fe5e84ddf25feab17cfaade2fb6c06b6b5a8a7629172ac720cdda9d59fbb7647", func := "loop.example/g00489/laws.FnExactLayersPromise", spec := "fnExactLayersPromise", unfollowed := true, recurses := true, apart := false, narrowed := true }
def FnExactLayersPromiseUptoSaid : Prop := fnExactLayersPromiseUptoRow.holds Try.pinned (OpenSpec.upto fnExactLayersPromiseSpec)

/-- 'laws.FnExactLight', WHERE WHAT IT READS IS OF BULK AT MOST 1048576: true; the input reads as it did. -/
def fnExactLightUptoRow : OpenClaim := { program := "ytfhmhbcnijlfaaa", sum := "fe5e84ddf25feab17cfaade2fb6c06b6b5a8a7629172ac720cdda9d59fbb7647", func := "loop.example/g00489/laws.FnExactLight", spec := "fnExactLight", unfollowed := true, recurses := true, apart := false, narrowed := true }
def FnExactLightUptoSaid : Prop := fnExactLightUptoRow.holds Try.pinned (OpenSpec.upto fnExactLightSpec)

end Rows
end Go.Proofs.Ytfhmhbcnijlfaaa
