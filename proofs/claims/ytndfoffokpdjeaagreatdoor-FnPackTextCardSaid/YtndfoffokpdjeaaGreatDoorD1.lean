/- What every value of .. -/
import Derived.Test.YtndfoffokpdjeaaGreatDoorS7
set_option linter.unusedSimpArgs false
set_option linter.unusedVariables false
namespace Go.Proofs.YtndfoffokpdjeaaGreatDoor
open Go
open Enc (rd ow)
open Arg (argv)
open Ret (retv)
open Wf (wf)
instance:Wf Pallet:=⟨λx=>wf x.fW∧wf x.fD∧wf x.fH∧wf x.fQ⟩
instance:Wf Pair:=⟨λx=>wf x.fA∧wf x.fB⟩
instance:Wf Typ:=⟨λx=>wf x.f8∧wf x.fW∧wf x.fH∧wf x.fD∧wf x.fK∧wf x.fQ∧wf x.fL⟩
instance:Wf Item:=⟨λx=>wf x.f8∧wf x.fW∧wf x.fH∧wf x.fD∧wf x.fQ∧wf x.fM∧wf x.fF⟩
instance:Wf Request:=⟨λx=>wf x.f9∧wf x.fJ∧wf x.fU∧wf x.fT∧wf x.fG∧wf x.fR∧wf x.fV⟩
instance:Wf Carton:=⟨λx=>wf x.qQ∧wf x.fk∧wf x.fl⟩
instance:Wf Spot:=⟨λx=>wf x.fJ∧wf x.fX∧wf x.fY∧wf x.fZ⟩
instance:Wf Plan:=⟨λx=>wf x.fE∧wf x.ft⟩
instance:Wf Box:=⟨λx=>wf x.fW∧wf x.fD∧wf x.fH∧wf x.fQ⟩
instance:Wf Load:=⟨λx=>wf x.fO∧wf x.fH∧wf x.fQ⟩
instance:Wf Layer:=⟨λx=>wf x.fP∧wf x.fD∧wf x.fH∧wf x.fQ⟩
instance:Wf Shelf:=⟨λx=>wf x.f0∧wf x.fW∧wf x.fD∧wf x.fH∧wf x.fQ⟩
instance:Wf L7:=⟨λx=>wf x.fvol∧wf x.fgram⟩
instance:Wf Cur:=⟨λx=>wf x.fb∧wf x.fi∧wf x.fh⟩
end Go.Proofs.YtndfoffokpdjeaaGreatDoor
