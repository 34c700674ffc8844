/- What every value of a structure of the program keeps. Printed by shut.py. -/
import Derived.Test.YtcboeijpplllfaaGreatS7
set_option linter.unusedSimpArgs false
set_option linter.unusedVariables false
namespace Go.Proofs.YtcboeijpplllfaaGreat
open Go
open Enc (rd ow)
open Arg (argv)
open Ret (retv)
open Wf (wf)
instance:Wf Pallet:=⟨fun x=>wf x.fW ∧ wf x.fD ∧ wf x.fH ∧ wf x.fGram⟩
instance:Wf Pair:=⟨fun x=>wf x.fA ∧ wf x.fB⟩
instance:Wf Typ:=⟨fun x=>wf x.fId ∧ wf x.fW ∧ wf x.fH ∧ wf x.fD ∧ wf x.fTare ∧ wf x.fGram ∧ wf x.fCost⟩
instance:Wf Item:=⟨fun x=>wf x.fId ∧ wf x.fW ∧ wf x.fH ∧ wf x.fD ∧ wf x.fGram ∧ wf x.fClass ∧ wf x.fCount⟩
instance:Wf Request:=⟨fun x=>wf x.fWay ∧ wf x.fPallet ∧ wf x.fClasses ∧ wf x.fPairs ∧ wf x.fTypes ∧ wf x.fMaster ∧ wf x.fItems⟩
instance:Wf Carton:=⟨fun x=>wf x.fType ∧ wf x.fGroup ∧ wf x.fUnits⟩
instance:Wf Spot:=⟨fun x=>wf x.fPallet ∧ wf x.fX ∧ wf x.fY ∧ wf x.fZ⟩
instance:Wf Plan:=⟨fun x=>wf x.fCartons ∧ wf x.fSpots⟩
instance:Wf Box:=⟨fun x=>wf x.fW ∧ wf x.fD ∧ wf x.fH ∧ wf x.fGram⟩
instance:Wf Load:=⟨fun x=>wf x.fLayers ∧ wf x.fH ∧ wf x.fGram⟩
instance:Wf Layer:=⟨fun x=>wf x.fShelves ∧ wf x.fD ∧ wf x.fH ∧ wf x.fGram⟩
instance:Wf Shelf:=⟨fun x=>wf x.fList ∧ wf x.fW ∧ wf x.fD ∧ wf x.fH ∧ wf x.fGram⟩
instance:Wf L7:=⟨fun x=>wf x.fvol ∧ wf x.fgram⟩
instance:Wf Cur:=⟨fun x=>wf x.fb ∧ wf x.fi ∧ wf x.fh⟩
end Go.Proofs.YtcboeijpplllfaaGreat
