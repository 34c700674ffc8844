/- What every value of .. -/
import Derived.Test.YthddjkokpfdbnaaGreatS7
set_option linter.unusedSimpArgs false
set_option linter.unusedVariables false
namespace Go.Proofs.YthddjkokpfdbnaaGreat
open Go
open Enc (rd ow)
open Arg (argv)
open Ret (retv)
open Wf (wf)
instance:Wf Pallet:=⟨fun x=>wf x.fW ∧ wf x.fD ∧ wf x.fH ∧ wf x.fV⟩
instance:Wf Pair:=⟨fun x=>wf x.fA ∧ wf x.fB⟩
instance:Wf Typ:=⟨fun x=>wf x.f8 ∧ wf x.fW ∧ wf x.fH ∧ wf x.fD ∧ wf x.f7 ∧ wf x.fV ∧ wf x.fK⟩
instance:Wf Item:=⟨fun x=>wf x.f8 ∧ wf x.fW ∧ wf x.fH ∧ wf x.fD ∧ wf x.fV ∧ wf x.fF ∧ wf x.f0⟩
instance:Wf Request:=⟨fun x=>wf x.qJ ∧ wf x.fQ ∧ wf x.fR ∧ wf x.fL ∧ wf x.fT ∧ wf x.fP ∧ wf x.fG⟩
instance:Wf Carton:=⟨fun x=>wf x.fO ∧ wf x.fE ∧ wf x.fM⟩
instance:Wf Spot:=⟨fun x=>wf x.fQ ∧ wf x.fX ∧ wf x.fY ∧ wf x.fZ⟩
instance:Wf Plan:=⟨fun x=>wf x.fJ ∧ wf x.fU⟩
instance:Wf Box:=⟨fun x=>wf x.fW ∧ wf x.fD ∧ wf x.fH ∧ wf x.fV⟩
instance:Wf Load:=⟨fun x=>wf x.qQ ∧ wf x.fH ∧ wf x.fV⟩
instance:Wf Layer:=⟨fun x=>wf x.ft ∧ wf x.fD ∧ wf x.fH ∧ wf x.fV⟩
instance:Wf Shelf:=⟨fun x=>wf x.qY ∧ wf x.fW ∧ wf x.fD ∧ wf x.fH ∧ wf x.fV⟩
instance:Wf L7:=⟨fun x=>wf x.fvol ∧ wf x.fgram⟩
instance:Wf Cur:=⟨fun x=>wf x.fb ∧ wf x.fi ∧ wf x.fh⟩
end Go.Proofs.YthddjkokpfdbnaaGreat
