/- What every value of .. -/
import Derived.Test.YtpcmapfabndggaaGreatDoorS7
set_option linter.unusedSimpArgs false
set_option linter.unusedVariables false
namespace Go.Proofs.YtpcmapfabndggaaGreatDoor
open Go
open Enc (rd ow)
open Arg (argv)
open Ret (retv)
open Wf (wf)
instance:Wf Pallet:=⟨λx=>wf x.fW∧wf x.fD∧wf x.fH∧wf x.fQ⟩
instance:Wf Pair:=⟨λx=>wf x.fA∧wf x.fB⟩
instance:Wf Typ:=⟨λx=>wf x.qQ∧wf x.fW∧wf x.fH∧wf x.fD∧wf x.ft∧wf x.fQ∧wf x.fK⟩
instance:Wf Item:=⟨λx=>wf x.qQ∧wf x.fW∧wf x.fH∧wf x.fD∧wf x.fQ∧wf x.fL∧wf x.f0⟩
instance:Wf Request:=⟨λx=>wf x.qY∧wf x.fJ∧wf x.fG∧wf x.fT∧wf x.fR∧wf x.fP∧wf x.fU⟩
instance:Wf Carton:=⟨λx=>wf x.qJ∧wf x.fM∧wf x.fO⟩
instance:Wf Spot:=⟨λx=>wf x.fJ∧wf x.fX∧wf x.fY∧wf x.fZ⟩
instance:Wf Plan:=⟨λx=>wf x.fV∧wf x.fF⟩
instance:Wf Box:=⟨λx=>wf x.fW∧wf x.fD∧wf x.fH∧wf x.fQ⟩
instance:Wf Load:=⟨λx=>wf x.f8∧wf x.fH∧wf x.fQ⟩
instance:Wf Layer:=⟨λx=>wf x.fE∧wf x.fD∧wf x.fH∧wf x.fQ⟩
instance:Wf Shelf:=⟨λx=>wf x.f9∧wf x.fW∧wf x.fD∧wf x.fH∧wf x.fQ⟩
instance:Wf L7:=⟨λx=>wf x.fvol∧wf x.fgram⟩
instance:Wf Cur:=⟨λx=>wf x.fb∧wf x.fi∧wf x.fh⟩
end Go.Proofs.YtpcmapfabndggaaGreatDoor
