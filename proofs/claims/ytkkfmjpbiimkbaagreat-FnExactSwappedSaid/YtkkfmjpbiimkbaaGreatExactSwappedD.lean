/- FnExactSwapped: what the functions that it reaches compute,on plain data. Printed by gen.py. -/
import Derived.Test.YtkkfmjpbiimkbaaGreatExactFeasibleBD
set_option linter.unusedVariables false
namespace Go.Proofs.YtkkfmjpbiimkbaaGreat
open Go
def d_spec_l9Carton (fu:Nat) (x1:Carton):Option (Carton) :=
  obind (apnd 8 (([]:List Int)) x1.fUnits) fun Aa=>some ((⟨x1.fType,x1.fGroup,Aa⟩:Carton))

def d_spec_l13Copy_L1_B (fu:Nat)  (x1:Plan) (Ad:List Spot) (k1:List Carton → Int → Option (Plan)) (Ab:List Carton) (Aa:Int):Option (Plan) :=
  bif (decide (Aa < ((x1.fCartons.length:Int)))) then obind (ix x1.fCartons Aa) fun Ae=>obind (d_spec_l9Carton fu Ae) fun Ac=>obind (apnd 40 Ab [Ac]) fun Af=>k1 Af (w64 (Aa + 1)) else some ((⟨Ab,Ad⟩:Plan))
def d_spec_l13Copy_L1 (fu:Nat)  (x1:Plan) (Aa:List Spot):Nat → List Carton → Int → Option (Plan)
  | 0=>fun _ _=>none
  | n + 1=>d_spec_l13Copy_L1_B fu x1 Aa (d_spec_l13Copy_L1 fu x1 Aa n)
theorem d_spec_l13Copy_L1_s (fu:Nat)  (x1:Plan) (Aa:List Spot) (n:Nat):d_spec_l13Copy_L1 fu x1 Aa (n + 1) = d_spec_l13Copy_L1_B fu x1 Aa (d_spec_l13Copy_L1 fu x1 Aa n):=z

def d_spec_l13Copy (fu:Nat) (x1:Plan):Option (Plan) :=
  obind (apnd 32 (([]:List Spot)) x1.fSpots) fun Aa=>d_spec_l13Copy_L1 fu x1 Aa fu (([]:List Carton)) 0

def d_spec_Swapped_J1 (fu:Nat) (k4:List Spot → Int → Option (Plan)) (Ab:Int) (Aa:List Spot):Option (Plan) :=
  k4 Aa (w64 (Ab + 1))

def d_spec_Swapped_L1_B (fu:Nat)  (x5:Plan) (a9:Int) (Ad:Int) (Ag:Plan) (k4:List Spot → Int → Option (Plan)) (Ab:List Spot) (Aa:Int):Option (Plan) :=
  bif (decide (Aa < ((Ab.length:Int)))) then obind (ix x5.fSpots Aa) fun Ac=>bif (Ac.fPallet == a9) then obind (ix Ab Aa) fun Af=>d_spec_Swapped_J1 fu k4 Aa (setx Ab Aa ({ Af with fPallet:=Ad })) else bif (Ac.fPallet == Ad) then obind (ix Ab Aa) fun Ae=>d_spec_Swapped_J1 fu k4 Aa (setx Ab Aa ({ Ae with fPallet:=a9 })) else d_spec_Swapped_J1 fu k4 Aa Ab else some ((⟨Ag.fCartons,Ab⟩:Plan))
def d_spec_Swapped_L1 (fu:Nat)  (x5:Plan) (a9:Int) (Ab:Int) (Aa:Plan):Nat → List Spot → Int → Option (Plan)
  | 0=>fun _ _=>none
  | n + 1=>d_spec_Swapped_L1_B fu x5 a9 Ab Aa (d_spec_Swapped_L1 fu x5 a9 Ab Aa n)
theorem d_spec_Swapped_L1_s (fu:Nat)  (x5:Plan) (a9:Int) (Ab:Int) (Aa:Plan) (n:Nat):d_spec_Swapped_L1 fu x5 a9 Ab Aa (n + 1) = d_spec_Swapped_L1_B fu x5 a9 Ab Aa (d_spec_Swapped_L1 fu x5 a9 Ab Aa n):=z

def d_spec_Swapped_J2 (fu:Nat) (x5:Plan) (a9:Int) (Ab:Int) (Aa:Plan)  : Option (Plan) :=
  d_spec_Swapped_L1 fu x5 a9 Ab Aa fu Aa.fSpots 0

def d_spec_Swapped (fu:Nat) (r1:Request) (x5:Plan) (a9:Int) (Ab:Int):Option (Plan) :=
  obind (d_spec_l13Copy fu x5) fun Aa=>obind (d_spec_Pallets fu x5.fSpots) fun Ac=>obind (d_spec_Feasible fu r1 x5) fun Ad=>bif (!Ad) then some (Aa) else obind (d_spec_l1In fu a9 0 (w64 (Ac - 1))) fun Ae=>bif (!Ae) then some (Aa) else obind (d_spec_l1In fu Ab 0 (w64 (Ac - 1))) fun Af=>bif (!Af) then some (Aa) else d_spec_Swapped_J2 fu x5 a9 Ab Aa

def d_impl_cloneCartons_L1_B (fu:Nat)  (Ad:List Carton) (k1:List Carton → Int → Option ((List Carton))) (Ac:List Carton) (Ab:Int):Option ((List Carton)) :=
  bif (decide (Ab < ((Ad.length:Int)))) then obind (ix Ad Ab) fun Aa=>obind (d_slices_Clone_int_int fu Aa.fUnits) fun Ae=>obind (apnd 40 Ac [(⟨Aa.fType,Aa.fGroup,Ae⟩:Carton)]) fun Af=>k1 Af (w64 (Ab + 1)) else some (Ac)
def d_impl_cloneCartons_L1 (fu:Nat)  (Aa:List Carton):Nat → List Carton → Int → Option ((List Carton))
  | 0=>fun _ _=>none
  | n + 1=>d_impl_cloneCartons_L1_B fu Aa (d_impl_cloneCartons_L1 fu Aa n)
theorem d_impl_cloneCartons_L1_s (fu:Nat)  (Aa:List Carton) (n:Nat):d_impl_cloneCartons_L1 fu Aa (n + 1) = d_impl_cloneCartons_L1_B fu Aa (d_impl_cloneCartons_L1 fu Aa n):=z

def d_impl_cloneCartons (fu:Nat) (Aa:List Carton):Option ((List Carton)) :=
  d_impl_cloneCartons_L1 fu Aa fu (([]:List Carton)) 0

def d_slices_Clone_impl_Spot_impl_Spot (fu:Nat) (Ab:List Spot):Option ((List Spot)) :=
  obind (apnd 32 (([]:List Spot)) Ab) fun Aa=>some (Aa)

def d_impl_clonePlan (fu:Nat) (x1:Plan):Option (Plan) :=
  obind (d_impl_cloneCartons fu x1.fCartons) fun Aa=>obind (d_slices_Clone_impl_Spot_impl_Spot fu x1.fSpots) fun Ab=>some ((⟨Aa,Ab⟩:Plan))

def d_impl_Swapped_1_J1 (fu:Nat)  (Aa:Spot):Option (Spot) :=
  some (Aa)

def d_impl_Swapped_1 (fu:Nat) (Ab:Box) (Aa:Spot) (x3:Int) (x6:Int):Option (Spot) :=
  bif (Aa.fPallet == x3) then d_impl_Swapped_1_J1 fu ((⟨x6,Aa.fX,Aa.fY,Aa.fZ⟩:Spot)) else bif (Aa.fPallet == x6) then d_impl_Swapped_1_J1 fu ((⟨x3,Aa.fX,Aa.fY,Aa.fZ⟩:Spot)) else d_impl_Swapped_1_J1 fu Aa

def d_impl_turned_L1_B (fu:Nat)  (r1:Request) (x5:Plan) (f9:Box → Spot → Option Spot) (Af:Plan) (k1:List Spot → Int → Option (Plan)) (Ab:List Spot) (Aa:Int):Option (Plan) :=
  bif (decide (Aa < ((x5.fCartons.length:Int)))) then obind (ix x5.fCartons Aa) fun Ag=>obind (ix x5.fSpots Aa) fun Ad=>obind (d_impl_BoxOf fu r1 Ag) fun Ae=>obind (f9 Ae Ad) fun Ac=>obind (ix Ab Aa) fun Ah=>k1 (setx Ab Aa Ac) (w64 (Aa + 1)) else some ((⟨Af.fCartons,Ab⟩:Plan))
def d_impl_turned_L1 (fu:Nat)  (r1:Request) (x5:Plan) (f9:Box → Spot → Option Spot) (Aa:Plan):Nat → List Spot → Int → Option (Plan)
  | 0=>fun _ _=>none
  | n + 1=>d_impl_turned_L1_B fu r1 x5 f9 Aa (d_impl_turned_L1 fu r1 x5 f9 Aa n)
theorem d_impl_turned_L1_s (fu:Nat)  (r1:Request) (x5:Plan) (f9:Box → Spot → Option Spot) (Aa:Plan) (n:Nat):d_impl_turned_L1 fu r1 x5 f9 Aa (n + 1) = d_impl_turned_L1_B fu r1 x5 f9 Aa (d_impl_turned_L1 fu r1 x5 f9 Aa n):=z

def d_impl_turned (fu:Nat) (r1:Request) (x5:Plan) (f9:Box → Spot → Option Spot):Option (Plan) :=
  obind (d_impl_clonePlan fu x5) fun Aa=>obind (d_impl_Feasible fu r1 x5) fun Ab=>bif (!Ab) then some (Aa) else d_impl_turned_L1 fu r1 x5 f9 Aa fu Aa.fSpots 0

def d_impl_Swapped_J1 (fu:Nat) (r1:Request) (x5:Plan) (a9:Int) (Ac:Int)  : Option (Plan) :=
  obind (d_impl_turned fu r1 x5 (fun Ad Ab=>d_impl_Swapped_1 fu Ad Ab a9 Ac)) fun Aa=>some (Aa)

def d_impl_Swapped (fu:Nat) (r1:Request) (x5:Plan) (a9:Int) (Aa:Int):Option (Plan) :=
  obind (d_impl_Pallets fu x5.fSpots) fun Ab=>obind (d_impl_in fu a9 0 (w64 (Ab - 1))) fun Ad=>bif (!Ad) then obind (d_impl_clonePlan fu x5) fun Ac=>some (Ac) else obind (d_impl_in fu Aa 0 (w64 (Ab - 1))) fun Ae=>bif (!Ae) then obind (d_impl_clonePlan fu x5) fun Af=>some (Af) else d_impl_Swapped_J1 fu r1 x5 a9 Aa

def d_laws_markPairS_L1_B (fu:Nat)   (k1:List Pair → Int → Int → Option (Int × (List Pair))) (Ac:List Pair) (Ab:Int) (Aa:Int):Option (Int × (List Pair)) :=
  bif (decide (Aa < ((Ac.length:Int)))) then obind (ix Ac Aa) fun Ad=>obind (ix (setx Ac Aa ({ Ad with fA:=Ab })) Aa) fun Ae=>k1 (setx (setx Ac Aa ({ Ad with fA:=Ab })) Aa ({ Ae with fB:=w64 (Ab + 1) })) (w64 ((w64 (Ab + 1)) + 1)) (w64 (Aa + 1)) else some (Ab,Ac)
def d_laws_markPairS_L1 (fu:Nat)   : Nat → List Pair → Int → Int → Option (Int × (List Pair))
  | 0=>fun _ _ _=>none
  | n + 1=>d_laws_markPairS_L1_B fu  (d_laws_markPairS_L1 fu  n)
theorem d_laws_markPairS_L1_s (fu:Nat)   (n:Nat):d_laws_markPairS_L1 fu  (n + 1) = d_laws_markPairS_L1_B fu  (d_laws_markPairS_L1 fu  n):=z

def d_laws_markPairS (fu:Nat) (a1:List Pair) (Aa:Int):Option (Int × (List Pair)) :=
  d_laws_markPairS_L1 fu fu a1 Aa 0

def d_laws_markTypeS_L1_B (fu:Nat)   (k1:List Typ → Int → Int → Option (Int × (List Typ))) (Ac:List Typ) (Ab:Int) (Aa:Int):Option (Int × (List Typ)) :=
  bif (decide (Aa < ((Ac.length:Int)))) then obind (ix Ac Aa) fun Ad=>obind (ix (setx Ac Aa ({ Ad with fId:=Ab })) Aa) fun Ae=>obind (ix (setx (setx Ac Aa ({ Ad with fId:=Ab })) Aa ({ Ae with fW:=w64 (Ab + 1) })) Aa) fun Af=>obind (ix (setx (setx (setx Ac Aa ({ Ad with fId:=Ab })) Aa ({ Ae with fW:=w64 (Ab + 1) })) Aa ({ Af with fH:=w64 ((w64 (Ab + 1)) + 1) })) Aa) fun Ag=>obind (ix (setx (setx (setx (setx Ac Aa ({ Ad with fId:=Ab })) Aa ({ Ae with fW:=w64 (Ab + 1) })) Aa ({ Af with fH:=w64 ((w64 (Ab + 1)) + 1) })) Aa ({ Ag with fD:=w64 ((w64 ((w64 (Ab + 1)) + 1)) + 1) })) Aa) fun Ah=>obind (ix (setx (setx (setx (setx (setx Ac Aa ({ Ad with fId:=Ab })) Aa ({ Ae with fW:=w64 (Ab + 1) })) Aa ({ Af with fH:=w64 ((w64 (Ab + 1)) + 1) })) Aa ({ Ag with fD:=w64 ((w64 ((w64 (Ab + 1)) + 1)) + 1) })) Aa ({ Ah with fTare:=w64 ((w64 ((w64 ((w64 (Ab + 1)) + 1)) + 1)) + 1) })) Aa) fun Ai=>obind (ix (setx (setx (setx (setx (setx (setx Ac Aa ({ Ad with fId:=Ab })) Aa ({ Ae with fW:=w64 (Ab + 1) })) Aa ({ Af with fH:=w64 ((w64 (Ab + 1)) + 1) })) Aa ({ Ag with fD:=w64 ((w64 ((w64 (Ab + 1)) + 1)) + 1) })) Aa ({ Ah with fTare:=w64 ((w64 ((w64 ((w64 (Ab + 1)) + 1)) + 1)) + 1) })) Aa ({ Ai with fGram:=w64 ((w64 ((w64 ((w64 ((w64 (Ab + 1)) + 1)) + 1)) + 1)) + 1) })) Aa) fun Aj=>k1 (setx (setx (setx (setx (setx (setx (setx Ac Aa ({ Ad with fId:=Ab })) Aa ({ Ae with fW:=w64 (Ab + 1) })) Aa ({ Af with fH:=w64 ((w64 (Ab + 1)) + 1) })) Aa ({ Ag with fD:=w64 ((w64 ((w64 (Ab + 1)) + 1)) + 1) })) Aa ({ Ah with fTare:=w64 ((w64 ((w64 ((w64 (Ab + 1)) + 1)) + 1)) + 1) })) Aa ({ Ai with fGram:=w64 ((w64 ((w64 ((w64 ((w64 (Ab + 1)) + 1)) + 1)) + 1)) + 1) })) Aa ({ Aj with fCost:=w64 ((w64 ((w64 ((w64 ((w64 ((w64 (Ab + 1)) + 1)) + 1)) + 1)) + 1)) + 1) })) (w64 ((w64 ((w64 ((w64 ((w64 ((w64 ((w64 (Ab + 1)) + 1)) + 1)) + 1)) + 1)) + 1)) + 1)) (w64 (Aa + 1)) else some (Ab,Ac)
def d_laws_markTypeS_L1 (fu:Nat)   : Nat → List Typ → Int → Int → Option (Int × (List Typ))
  | 0=>fun _ _ _=>none
  | n + 1=>d_laws_markTypeS_L1_B fu  (d_laws_markTypeS_L1 fu  n)
theorem d_laws_markTypeS_L1_s (fu:Nat)   (n:Nat):d_laws_markTypeS_L1 fu  (n + 1) = d_laws_markTypeS_L1_B fu  (d_laws_markTypeS_L1 fu  n):=z

def d_laws_markTypeS (fu:Nat) (a1:List Typ) (Aa:Int):Option (Int × (List Typ)) :=
  d_laws_markTypeS_L1 fu fu a1 Aa 0

def d_laws_markItemS_L1_B (fu:Nat)   (k1:List Item → Int → Int → Option (Int × (List Item))) (Ac:List Item) (Ab:Int) (Aa:Int):Option (Int × (List Item)) :=
  bif (decide (Aa < ((Ac.length:Int)))) then obind (ix Ac Aa) fun Ad=>obind (ix (setx Ac Aa ({ Ad with fId:=Ab })) Aa) fun Ae=>obind (ix (setx (setx Ac Aa ({ Ad with fId:=Ab })) Aa ({ Ae with fW:=w64 (Ab + 1) })) Aa) fun Af=>obind (ix (setx (setx (setx Ac Aa ({ Ad with fId:=Ab })) Aa ({ Ae with fW:=w64 (Ab + 1) })) Aa ({ Af with fH:=w64 ((w64 (Ab + 1)) + 1) })) Aa) fun Ag=>obind (ix (setx (setx (setx (setx Ac Aa ({ Ad with fId:=Ab })) Aa ({ Ae with fW:=w64 (Ab + 1) })) Aa ({ Af with fH:=w64 ((w64 (Ab + 1)) + 1) })) Aa ({ Ag with fD:=w64 ((w64 ((w64 (Ab + 1)) + 1)) + 1) })) Aa) fun Ah=>obind (ix (setx (setx (setx (setx (setx Ac Aa ({ Ad with fId:=Ab })) Aa ({ Ae with fW:=w64 (Ab + 1) })) Aa ({ Af with fH:=w64 ((w64 (Ab + 1)) + 1) })) Aa ({ Ag with fD:=w64 ((w64 ((w64 (Ab + 1)) + 1)) + 1) })) Aa ({ Ah with fGram:=w64 ((w64 ((w64 ((w64 (Ab + 1)) + 1)) + 1)) + 1) })) Aa) fun Ai=>obind (ix (setx (setx (setx (setx (setx (setx Ac Aa ({ Ad with fId:=Ab })) Aa ({ Ae with fW:=w64 (Ab + 1) })) Aa ({ Af with fH:=w64 ((w64 (Ab + 1)) + 1) })) Aa ({ Ag with fD:=w64 ((w64 ((w64 (Ab + 1)) + 1)) + 1) })) Aa ({ Ah with fGram:=w64 ((w64 ((w64 ((w64 (Ab + 1)) + 1)) + 1)) + 1) })) Aa ({ Ai with fClass:=w64 ((w64 ((w64 ((w64 ((w64 (Ab + 1)) + 1)) + 1)) + 1)) + 1) })) Aa) fun Aj=>k1 (setx (setx (setx (setx (setx (setx (setx Ac Aa ({ Ad with fId:=Ab })) Aa ({ Ae with fW:=w64 (Ab + 1) })) Aa ({ Af with fH:=w64 ((w64 (Ab + 1)) + 1) })) Aa ({ Ag with fD:=w64 ((w64 ((w64 (Ab + 1)) + 1)) + 1) })) Aa ({ Ah with fGram:=w64 ((w64 ((w64 ((w64 (Ab + 1)) + 1)) + 1)) + 1) })) Aa ({ Ai with fClass:=w64 ((w64 ((w64 ((w64 ((w64 (Ab + 1)) + 1)) + 1)) + 1)) + 1) })) Aa ({ Aj with fCount:=w64 ((w64 ((w64 ((w64 ((w64 ((w64 (Ab + 1)) + 1)) + 1)) + 1)) + 1)) + 1) })) (w64 ((w64 ((w64 ((w64 ((w64 ((w64 ((w64 (Ab + 1)) + 1)) + 1)) + 1)) + 1)) + 1)) + 1)) (w64 (Aa + 1)) else some (Ab,Ac)
def d_laws_markItemS_L1 (fu:Nat)   : Nat → List Item → Int → Int → Option (Int × (List Item))
  | 0=>fun _ _ _=>none
  | n + 1=>d_laws_markItemS_L1_B fu  (d_laws_markItemS_L1 fu  n)
theorem d_laws_markItemS_L1_s (fu:Nat)   (n:Nat):d_laws_markItemS_L1 fu  (n + 1) = d_laws_markItemS_L1_B fu  (d_laws_markItemS_L1 fu  n):=z

def d_laws_markItemS (fu:Nat) (a1:List Item) (Aa:Int):Option (Int × (List Item)) :=
  d_laws_markItemS_L1 fu fu a1 Aa 0

def d_laws_markRequest (fu:Nat) (a1:Request) (Ad:Int):Option (Int × Request) :=
  obind (d_laws_markPairS fu a1.fPairs Ad) fun Ab=>obind (d_laws_markTypeS fu a1.fTypes Ab.1) fun Aa=>obind (d_laws_markItemS fu a1.fItems Aa.1) fun Ac=>some (Ac.1,(⟨a1.fWay,a1.fPallet,a1.fClasses,Ab.2,Aa.2,a1.fMaster,Ac.2⟩:Request))

def d_laws_markIntS_L1_B (fu:Nat)   (k1:List Int → Int → Int → Option (Int × (List Int))) (Aa:List Int) (Ac:Int) (Ab:Int):Option (Int × (List Int)) :=
  bif (decide (Ab < ((Aa.length:Int)))) then obind (ix Aa Ab) fun Ad=>k1 (setx Aa Ab Ac) (w64 (Ac + 1)) (w64 (Ab + 1)) else some (Ac,Aa)
def d_laws_markIntS_L1 (fu:Nat)   : Nat → List Int → Int → Int → Option (Int × (List Int))
  | 0=>fun _ _ _=>none
  | n + 1=>d_laws_markIntS_L1_B fu  (d_laws_markIntS_L1 fu  n)
theorem d_laws_markIntS_L1_s (fu:Nat)   (n:Nat):d_laws_markIntS_L1 fu  (n + 1) = d_laws_markIntS_L1_B fu  (d_laws_markIntS_L1 fu  n):=z

def d_laws_markIntS (fu:Nat) (a1:List Int) (Aa:Int):Option (Int × (List Int)) :=
  d_laws_markIntS_L1 fu fu a1 Aa 0

def d_laws_markCartonS_L1_B (fu:Nat)   (k1:List Carton → Int → Int → Option (Int × (List Carton))) (Ad:List Carton) (Ab:Int) (Aa:Int):Option (Int × (List Carton)) :=
  bif (decide (Aa < ((Ad.length:Int)))) then obind (ix Ad Aa) fun Ac=>obind (ix (setx Ad Aa ((⟨Ab,Ac.fGroup,Ac.fUnits⟩:Carton))) Aa) fun Ae=>obind (ix (setx (setx Ad Aa ((⟨Ab,Ac.fGroup,Ac.fUnits⟩:Carton))) Aa ((⟨Ae.fType,w64 (Ab + 1),Ae.fUnits⟩:Carton))) Aa) fun Af=>obind (d_laws_markIntS fu Af.fUnits (w64 ((w64 (Ab + 1)) + 1))) fun Ag=>k1 (setx (setx (setx Ad Aa ((⟨Ab,Ac.fGroup,Ac.fUnits⟩:Carton))) Aa ((⟨Ae.fType,w64 (Ab + 1),Ae.fUnits⟩:Carton))) Aa ((⟨Af.fType,Af.fGroup,Ag.2⟩:Carton))) Ag.1 (w64 (Aa + 1)) else some (Ab,Ad)
def d_laws_markCartonS_L1 (fu:Nat)   : Nat → List Carton → Int → Int → Option (Int × (List Carton))
  | 0=>fun _ _ _=>none
  | n + 1=>d_laws_markCartonS_L1_B fu  (d_laws_markCartonS_L1 fu  n)
theorem d_laws_markCartonS_L1_s (fu:Nat)   (n:Nat):d_laws_markCartonS_L1 fu  (n + 1) = d_laws_markCartonS_L1_B fu  (d_laws_markCartonS_L1 fu  n):=z

def d_laws_markCartonS (fu:Nat) (a1:List Carton) (Aa:Int):Option (Int × (List Carton)) :=
  d_laws_markCartonS_L1 fu fu a1 Aa 0

def d_laws_markSpotS_L1_B (fu:Nat)   (k1:List Spot → Int → Int → Option (Int × (List Spot))) (Ac:List Spot) (Ab:Int) (Aa:Int):Option (Int × (List Spot)) :=
  bif (decide (Aa < ((Ac.length:Int)))) then obind (ix Ac Aa) fun Ad=>obind (ix (setx Ac Aa ({ Ad with fPallet:=Ab })) Aa) fun Ae=>obind (ix (setx (setx Ac Aa ({ Ad with fPallet:=Ab })) Aa ({ Ae with fX:=w64 (Ab + 1) })) Aa) fun Af=>obind (ix (setx (setx (setx Ac Aa ({ Ad with fPallet:=Ab })) Aa ({ Ae with fX:=w64 (Ab + 1) })) Aa ({ Af with fY:=w64 ((w64 (Ab + 1)) + 1) })) Aa) fun Ag=>k1 (setx (setx (setx (setx Ac Aa ({ Ad with fPallet:=Ab })) Aa ({ Ae with fX:=w64 (Ab + 1) })) Aa ({ Af with fY:=w64 ((w64 (Ab + 1)) + 1) })) Aa ({ Ag with fZ:=w64 ((w64 ((w64 (Ab + 1)) + 1)) + 1) })) (w64 ((w64 ((w64 ((w64 (Ab + 1)) + 1)) + 1)) + 1)) (w64 (Aa + 1)) else some (Ab,Ac)
def d_laws_markSpotS_L1 (fu:Nat)   : Nat → List Spot → Int → Int → Option (Int × (List Spot))
  | 0=>fun _ _ _=>none
  | n + 1=>d_laws_markSpotS_L1_B fu  (d_laws_markSpotS_L1 fu  n)
theorem d_laws_markSpotS_L1_s (fu:Nat)   (n:Nat):d_laws_markSpotS_L1 fu  (n + 1) = d_laws_markSpotS_L1_B fu  (d_laws_markSpotS_L1 fu  n):=z

def d_laws_markSpotS (fu:Nat) (a1:List Spot) (Aa:Int):Option (Int × (List Spot)) :=
  d_laws_markSpotS_L1 fu fu a1 Aa 0

def d_laws_markPlan (fu:Nat) (a1:Plan) (Ac:Int):Option (Int × Plan) :=
  obind (d_laws_markCartonS fu a1.fCartons Ac) fun Aa=>obind (d_laws_markSpotS fu a1.fSpots Aa.1) fun Ab=>some (Ab.1,(⟨Aa.2,Ab.2⟩:Plan))

def d_laws_heldIntS_L1_B (fu:Nat)  (a1:List Int) (k1:Int → Int → Option (Int)) (Aa:Int) (Ab:Int):Option (Int) :=
  bif (decide (Ab < ((a1.length:Int)))) then obind (ix a1 Ab) fun Ac=>bif (Ac != Aa) then some ((-1)) else k1 (w64 (Aa + 1)) (w64 (Ab + 1)) else some (Aa)
def d_laws_heldIntS_L1 (fu:Nat)  (a1:List Int):Nat → Int → Int → Option (Int)
  | 0=>fun _ _=>none
  | n + 1=>d_laws_heldIntS_L1_B fu a1 (d_laws_heldIntS_L1 fu a1 n)
theorem d_laws_heldIntS_L1_s (fu:Nat)  (a1:List Int) (n:Nat):d_laws_heldIntS_L1 fu a1 (n + 1) = d_laws_heldIntS_L1_B fu a1 (d_laws_heldIntS_L1 fu a1 n):=z

def d_laws_heldIntS (fu:Nat) (a1:List Int) (Aa:Int):Option (Int) :=
  d_laws_heldIntS_L1 fu a1 fu Aa 0

def d_laws_heldCartonS_L1_B (fu:Nat)  (a1:List Carton) (k1:Int → Int → Option (Int)) (Ab:Int) (Aa:Int):Option (Int) :=
  bif (decide (Aa < ((a1.length:Int)))) then obind (ix a1 Aa) fun Ac=>bif (Ac.fType != Ab) then some ((-1)) else obind (ix a1 Aa) fun Af=>bif (Ac.fGroup != (w64 (Ab + 1))) then some ((-1)) else obind (ix a1 Aa) fun Ae=>obind (d_laws_heldIntS fu Ac.fUnits (w64 ((w64 (Ab + 1)) + 1))) fun Ad=>bif (decide (Ad < 0)) then some ((-1)) else k1 Ad (w64 (Aa + 1)) else some (Ab)
def d_laws_heldCartonS_L1 (fu:Nat)  (a1:List Carton):Nat → Int → Int → Option (Int)
  | 0=>fun _ _=>none
  | n + 1=>d_laws_heldCartonS_L1_B fu a1 (d_laws_heldCartonS_L1 fu a1 n)
theorem d_laws_heldCartonS_L1_s (fu:Nat)  (a1:List Carton) (n:Nat):d_laws_heldCartonS_L1 fu a1 (n + 1) = d_laws_heldCartonS_L1_B fu a1 (d_laws_heldCartonS_L1 fu a1 n):=z

def d_laws_heldCartonS (fu:Nat) (a1:List Carton) (Aa:Int):Option (Int) :=
  d_laws_heldCartonS_L1 fu a1 fu Aa 0

def d_laws_heldSpotS_L1_B (fu:Nat)  (a1:List Spot) (k1:Int → Int → Option (Int)) (Aa:Int) (Ab:Int):Option (Int) :=
  bif (decide (Ab < ((a1.length:Int)))) then obind (ix a1 Ab) fun Ac=>bif (Ac.fPallet != Aa) then some ((-1)) else obind (ix a1 Ab) fun Af=>bif (Ac.fX != (w64 (Aa + 1))) then some ((-1)) else obind (ix a1 Ab) fun Ad=>bif (Ac.fY != (w64 ((w64 (Aa + 1)) + 1))) then some ((-1)) else obind (ix a1 Ab) fun Ae=>bif (Ac.fZ != (w64 ((w64 ((w64 (Aa + 1)) + 1)) + 1))) then some ((-1)) else k1 (w64 ((w64 ((w64 ((w64 (Aa + 1)) + 1)) + 1)) + 1)) (w64 (Ab + 1)) else some (Aa)
def d_laws_heldSpotS_L1 (fu:Nat)  (a1:List Spot):Nat → Int → Int → Option (Int)
  | 0=>fun _ _=>none
  | n + 1=>d_laws_heldSpotS_L1_B fu a1 (d_laws_heldSpotS_L1 fu a1 n)
theorem d_laws_heldSpotS_L1_s (fu:Nat)  (a1:List Spot) (n:Nat):d_laws_heldSpotS_L1 fu a1 (n + 1) = d_laws_heldSpotS_L1_B fu a1 (d_laws_heldSpotS_L1 fu a1 n):=z

def d_laws_heldSpotS (fu:Nat) (a1:List Spot) (Aa:Int):Option (Int) :=
  d_laws_heldSpotS_L1 fu a1 fu Aa 0

def d_laws_heldPlan (fu:Nat) (a1:Plan) (Ac:Int):Option (Int) :=
  obind (d_laws_heldCartonS fu a1.fCartons Ac) fun Aa=>bif (decide (Aa < 0)) then some ((-1)) else obind (d_laws_heldSpotS fu a1.fSpots Aa) fun Ab=>bif (decide (Ab < 0)) then some ((-1)) else some (Ab)

def d_laws_FnExactSwapped_J1 (fu:Nat) (Ac:List Carton) (Ag:List Spot) (Ab:Int × Plan) (Ad:List Carton) (Ae:List Spot):Option (Bool) :=
  obind (d_laws_eqPlan fu ((⟨Ad,Ae⟩:Plan)) ((⟨Ac,Ag⟩:Plan))) fun Af=>bif (!Af) then some (false) else obind (d_laws_heldPlan fu Ab.2 1) fun Aa=>bif (decide (Aa < 0)) then some (false) else bif (Aa != Ab.1) then some (false) else some (true)

def d_laws_FnExactSwapped_J2 (fu:Nat) (Al:Request) (Ai:Plan) (Af:Int) (Ad:Int) (Ag:List Carton) (Ak:List Spot) (Ah:Plan)  : Option (Bool) :=
  obind (d_laws_markPlan fu Ah 1) fun Aa=>obind (d_laws_heldPlan fu Aa.2 1) fun Ab=>bif (decide (Ab < 0)) then some (false) else bif (Ab != Aa.1) then some (false) else obind (d_laws_toRequest fu Al) fun Aj=>obind (d_laws_toPlan fu Ai) fun Ae=>obind (d_impl_Swapped fu Aj Ae Af Ad) fun Ac=>d_laws_FnExactSwapped_J1 fu Ag Ak Aa Ac.fCartons Ac.fSpots

def d_laws_FnExactSwapped_J3 (fu:Nat) (Ag:Request) (Ae:Plan) (Ai:Int) (Ah:Int) (Ab:List Carton) (Af:List Spot):Option (Bool) :=
  obind (d_laws_toRequest fu Ag) fun Ac=>obind (d_laws_toPlan fu Ae) fun Ad=>obind (d_impl_Swapped fu Ac Ad Ai Ah) fun Aa=>obind (d_laws_eqPlan fu Aa ((⟨Ab,Af⟩:Plan))) fun Ao=>bif (!Ao) then some (false) else obind (d_laws_toRequest fu Ag) fun Am=>obind (d_laws_eqRequest fu Ac Am) fun Ak=>bif (!Ak) then some (false) else obind (d_laws_toPlan fu Ae) fun Aq=>obind (d_laws_eqPlan fu Ad Aq) fun Ar=>bif (!Ar) then some (false) else obind (d_laws_markRequest fu Ac 1) fun Ap=>obind (d_laws_markPlan fu Ad Ap.1) fun Al=>bif (decide (Al.1 < 0)) then some (false) else obind (d_laws_eqPlan fu Aa ((⟨Ab,Af⟩:Plan))) fun Aj=>bif (!Aj) then some (false) else d_laws_FnExactSwapped_J2 fu Ag Ae Ai Ah Ab Af Aa

def d_laws_FnExactSwapped (fu:Nat) (Ab:Request) (Aa:Plan) (Ad:Int) (Ac:Int):Option (Bool) :=
  obind (d_laws_szRequest fu Ab 1048576) fun Af=>bif (decide (Af < 0)) then some (true) else obind (d_laws_szPlan fu Aa Af) fun Ai=>bif (decide (Ai < 0)) then some (true) else obind (d_laws_toRequest fu Ab) fun Ah=>obind (d_laws_toPlan fu Aa) fun Ag=>obind (d_spec_Swapped fu Ah Ag Ad Ac) fun Ae=>d_laws_FnExactSwapped_J3 fu Ab Aa Ad Ac Ae.fCartons Ae.fSpots

end Go.Proofs.YtkkfmjpbiimkbaaGreat
