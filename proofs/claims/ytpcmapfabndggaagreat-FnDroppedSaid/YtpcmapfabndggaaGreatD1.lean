/- What every value of .. -/
import Derived.Test.YtpcmapfabndggaaGreatS7
set_option linter.unusedSimpArgs false
set_option linter.unusedVariables false
namespace Go.Proofs.YtpcmapfabndggaaGreat
open Go
open Enc (rd ow)
open Arg (argv)
open Ret (retv)
open Wf (wf)
instance:Wf Pallet:=⟨λx=>wf x.fW ∧ wf x.fD ∧ wf x.fH ∧ wf x.fV⟩
instance:Wf Pair:=⟨λx=>wf x.fA ∧ wf x.fB⟩
instance:Wf Typ:=⟨λx=>wf x.f8 ∧ wf x.fW ∧ wf x.fH ∧ wf x.fD ∧ wf x.f7 ∧ wf x.fV ∧ wf x.fK⟩
instance:Wf Item:=⟨λx=>wf x.f8 ∧ wf x.fW ∧ wf x.fH ∧ wf x.fD ∧ wf x.fV ∧ wf x.fF ∧ wf x.f0⟩
instance:Wf Request:=⟨λx=>wf x.qQ ∧ wf x.fJ ∧ wf x.fR ∧ wf x.fL ∧ wf x.fT ∧ wf x.fP ∧ wf x.fG⟩
instance:Wf Carton:=⟨λx=>wf x.fO ∧ wf x.fE ∧ wf x.fM⟩
instance:Wf Spot:=⟨λx=>wf x.fJ ∧ wf x.fX ∧ wf x.fY ∧ wf x.fZ⟩
instance:Wf Plan:=⟨λx=>wf x.fQ ∧ wf x.fU⟩
instance:Wf Box:=⟨λx=>wf x.fW ∧ wf x.fD ∧ wf x.fH ∧ wf x.fV⟩
instance:Wf Load:=⟨λx=>wf x.ft ∧ wf x.fH ∧ wf x.fV⟩
instance:Wf Layer:=⟨λx=>wf x.f9 ∧ wf x.fD ∧ wf x.fH ∧ wf x.fV⟩
instance:Wf Shelf:=⟨λx=>wf x.qJ ∧ wf x.fW ∧ wf x.fD ∧ wf x.fH ∧ wf x.fV⟩
instance:Wf L7:=⟨λx=>wf x.fvol ∧ wf x.fgram⟩
instance:Wf Cur:=⟨λx=>wf x.fb ∧ wf x.fi ∧ wf x.fh⟩
end Go.Proofs.YtpcmapfabndggaaGreat
