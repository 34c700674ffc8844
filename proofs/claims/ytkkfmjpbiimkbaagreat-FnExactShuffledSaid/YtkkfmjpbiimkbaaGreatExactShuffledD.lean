/- FnExactShuffled: what the functions that it reaches compute,on plain data. Printed by gen.py. -/
import Derived.Test.YtkkfmjpbiimkbaaGreatExactFeasibleBD
set_option linter.unusedVariables false
namespace Go.Proofs.YtkkfmjpbiimkbaaGreat
open Go
def d_spec_l9Carton (fu:Nat) (x1:Carton):Option (Carton) :=
  obind (apnd 8 (([]:List Int)) x1.fUnits) fun Aa=>some ((⟨x1.fType,x1.fGroup,Aa⟩:Carton))

def d_spec_l13Copy_L1_B (fu:Nat)  (x1:Plan) (Ad:List Spot) (k1:List Carton → Int → Option (Plan)) (Ab:List Carton) (Aa:Int):Option (Plan) :=
  bif (decide (Aa < ((x1.fCartons.length:Int)))) then obind (ix x1.fCartons Aa) fun Ae=>obind (d_spec_l9Carton fu Ae) fun Ac=>obind (apnd 40 Ab [Ac]) fun Af=>k1 Af (w64 (Aa + 1)) else some ((⟨Ab,Ad⟩:Plan))
def d_spec_l13Copy_L1 (fu:Nat)  (x1:Plan) (Aa:List Spot):Nat → List Carton → Int → Option (Plan)
  | 0=>fun _ _=>none
  | n + 1=>d_spec_l13Copy_L1_B fu x1 Aa (d_spec_l13Copy_L1 fu x1 Aa n)
theorem d_spec_l13Copy_L1_s (fu:Nat)  (x1:Plan) (Aa:List Spot) (n:Nat):d_spec_l13Copy_L1 fu x1 Aa (n + 1) = d_spec_l13Copy_L1_B fu x1 Aa (d_spec_l13Copy_L1 fu x1 Aa n):=z

def d_spec_l13Copy (fu:Nat) (x1:Plan):Option (Plan) :=
  obind (apnd 32 (([]:List Spot)) x1.fSpots) fun Aa=>d_spec_l13Copy_L1 fu x1 Aa fu (([]:List Carton)) 0

def d_spec_Shuffled_L1_B (fu:Nat)  (x5:Plan) (Ab:List Int) (k2:List Carton → List Spot → Int → Option (Plan)) (Ad:List Carton) (Ae:List Spot) (Aa:Int):Option (Plan) :=
  bif (decide (Aa < ((x5.fCartons.length:Int)))) then obind (d_spec_l8Times fu Ab Aa) fun Ah=>bif (Ah != 1) then obind (d_spec_l13Copy fu x5) fun Ag=>some (Ag) else obind (ix Ab Aa) fun Ac=>obind (d_spec_l1In fu Ac 0 (w64 (((x5.fCartons.length:Int)) - 1))) fun Af=>bif (!Af) then obind (d_spec_l13Copy fu x5) fun Al=>some (Al) else obind (ix Ab Aa) fun Aq=>obind (ix x5.fCartons Ac) fun Ak=>obind (d_spec_l9Carton fu Ak) fun Am=>obind (apnd 40 Ad [Am]) fun Ai=>obind (ix Ab Aa) fun Ap=>obind (ix x5.fSpots Ac) fun Ao=>obind (apnd 32 Ae (([Ao]:List Spot))) fun Aj=>k2 Ai Aj (w64 (Aa + 1)) else some ((⟨Ad,Ae⟩:Plan))
def d_spec_Shuffled_L1 (fu:Nat)  (x5:Plan) (Aa:List Int):Nat → List Carton → List Spot → Int → Option (Plan)
  | 0=>fun _ _ _=>none
  | n + 1=>d_spec_Shuffled_L1_B fu x5 Aa (d_spec_Shuffled_L1 fu x5 Aa n)
theorem d_spec_Shuffled_L1_s (fu:Nat)  (x5:Plan) (Aa:List Int) (n:Nat):d_spec_Shuffled_L1 fu x5 Aa (n + 1) = d_spec_Shuffled_L1_B fu x5 Aa (d_spec_Shuffled_L1 fu x5 Aa n):=z

def d_spec_Shuffled_J1 (fu:Nat) (x5:Plan) (Aa:List Int)  : Option (Plan) :=
  d_spec_Shuffled_L1 fu x5 Aa fu (([]:List Carton)) (([]:List Spot)) 0

def d_spec_Shuffled (fu:Nat) (r1:Request) (x5:Plan) (Aa:List Int):Option (Plan) :=
  obind (d_spec_Feasible fu r1 x5) fun Ad=>bif (!Ad) then obind (d_spec_l13Copy fu x5) fun Ac=>some (Ac) else bif (((Aa.length:Int)) != ((x5.fCartons.length:Int))) then obind (d_spec_l13Copy fu x5) fun Ab=>some (Ab) else d_spec_Shuffled_J1 fu x5 Aa

def d_impl_cloneCartons_L1_B (fu:Nat)  (Ad:List Carton) (k1:List Carton → Int → Option ((List Carton))) (Ac:List Carton) (Ab:Int):Option ((List Carton)) :=
  bif (decide (Ab < ((Ad.length:Int)))) then obind (ix Ad Ab) fun Aa=>obind (d_slices_Clone_int_int fu Aa.fUnits) fun Af=>obind (apnd 40 Ac [(⟨Aa.fType,Aa.fGroup,Af⟩:Carton)]) fun Ae=>k1 Ae (w64 (Ab + 1)) else some (Ac)
def d_impl_cloneCartons_L1 (fu:Nat)  (Aa:List Carton):Nat → List Carton → Int → Option ((List Carton))
  | 0=>fun _ _=>none
  | n + 1=>d_impl_cloneCartons_L1_B fu Aa (d_impl_cloneCartons_L1 fu Aa n)
theorem d_impl_cloneCartons_L1_s (fu:Nat)  (Aa:List Carton) (n:Nat):d_impl_cloneCartons_L1 fu Aa (n + 1) = d_impl_cloneCartons_L1_B fu Aa (d_impl_cloneCartons_L1 fu Aa n):=z

def d_impl_cloneCartons (fu:Nat) (Aa:List Carton):Option ((List Carton)) :=
  d_impl_cloneCartons_L1 fu Aa fu (([]:List Carton)) 0

def d_slices_Clone_impl_Spot_impl_Spot (fu:Nat) (Ab:List Spot):Option ((List Spot)) :=
  obind (apnd 32 (([]:List Spot)) Ab) fun Aa=>some (Aa)

def d_impl_clonePlan (fu:Nat) (x1:Plan):Option (Plan) :=
  obind (d_impl_cloneCartons fu x1.fCartons) fun Aa=>obind (d_slices_Clone_impl_Spot_impl_Spot fu x1.fSpots) fun Ab=>some ((⟨Aa,Ab⟩:Plan))

def d_impl_Shuffled_L1_B (fu:Nat)  (x5:Plan) (Af:List Int) (k2:List Carton → List Spot → Int → Option (Plan)) (Ab:List Carton) (Ad:List Spot) (Aa:Int):Option (Plan) :=
  bif (decide (Aa < ((Af.length:Int)))) then obind (ix Af Aa) fun Ae=>obind (ix x5.fCartons Ae) fun Ac=>obind (d_slices_Clone_int_int fu Ac.fUnits) fun Ag=>obind (ix Ab Aa) fun Aj=>obind (ix x5.fSpots Ae) fun Ah=>obind (ix Ad Aa) fun Ai=>k2 (setx Ab Aa ((⟨Ac.fType,Ac.fGroup,Ag⟩:Carton))) (setx Ad Aa Ah) (w64 (Aa + 1)) else some ((⟨Ab,Ad⟩:Plan))
def d_impl_Shuffled_L1 (fu:Nat)  (x5:Plan) (Aa:List Int):Nat → List Carton → List Spot → Int → Option (Plan)
  | 0=>fun _ _ _=>none
  | n + 1=>d_impl_Shuffled_L1_B fu x5 Aa (d_impl_Shuffled_L1 fu x5 Aa n)
theorem d_impl_Shuffled_L1_s (fu:Nat)  (x5:Plan) (Aa:List Int) (n:Nat):d_impl_Shuffled_L1 fu x5 Aa (n + 1) = d_impl_Shuffled_L1_B fu x5 Aa (d_impl_Shuffled_L1 fu x5 Aa n):=z

def d_impl_Shuffled_J1 (fu:Nat) (x5:Plan) (Ab:List Int) (Aa:Plan)  : Option (Plan) :=
  d_impl_Shuffled_L1 fu x5 Ab fu Aa.fCartons Aa.fSpots 0

def d_impl_Shuffled (fu:Nat) (r1:Request) (x5:Plan) (Ab:List Int):Option (Plan) :=
  obind (d_impl_clonePlan fu x5) fun Aa=>obind (d_slices_Clone_int_int fu Ab) fun Ag=>obind (d_slices_Sort_int_int fu Ag) fun Ad=>obind (d_impl_Feasible fu r1 x5) fun Ac=>bif (!Ac) then some (Aa) else obind (d_impl_places fu ((x5.fCartons.length:Int))) fun Ae=>obind (d_slices_Equal_int_int fu Ad Ae) fun Af=>bif (!Af) then some (Aa) else d_impl_Shuffled_J1 fu x5 Ab Aa

def d_laws_markPairS_L1_B (fu:Nat)   (k1:List Pair → Int → Int → Option (Int × (List Pair))) (Ab:List Pair) (Ac:Int) (Aa:Int):Option (Int × (List Pair)) :=
  bif (decide (Aa < ((Ab.length:Int)))) then obind (ix Ab Aa) fun Ad=>obind (ix (setx Ab Aa ({ Ad with fA:=Ac })) Aa) fun Ae=>k1 (setx (setx Ab Aa ({ Ad with fA:=Ac })) Aa ({ Ae with fB:=w64 (Ac + 1) })) (w64 ((w64 (Ac + 1)) + 1)) (w64 (Aa + 1)) else some (Ac,Ab)
def d_laws_markPairS_L1 (fu:Nat)   : Nat → List Pair → Int → Int → Option (Int × (List Pair))
  | 0=>fun _ _ _=>none
  | n + 1=>d_laws_markPairS_L1_B fu  (d_laws_markPairS_L1 fu  n)
theorem d_laws_markPairS_L1_s (fu:Nat)   (n:Nat):d_laws_markPairS_L1 fu  (n + 1) = d_laws_markPairS_L1_B fu  (d_laws_markPairS_L1 fu  n):=z

def d_laws_markPairS (fu:Nat) (a1:List Pair) (Aa:Int):Option (Int × (List Pair)) :=
  d_laws_markPairS_L1 fu fu a1 Aa 0

def d_laws_markTypeS_L1_B (fu:Nat)   (k1:List Typ → Int → Int → Option (Int × (List Typ))) (Ac:List Typ) (Ab:Int) (Aa:Int):Option (Int × (List Typ)) :=
  bif (decide (Aa < ((Ac.length:Int)))) then obind (ix Ac Aa) fun Ad=>obind (ix (setx Ac Aa ({ Ad with fId:=Ab })) Aa) fun Ae=>obind (ix (setx (setx Ac Aa ({ Ad with fId:=Ab })) Aa ({ Ae with fW:=w64 (Ab + 1) })) Aa) fun Af=>obind (ix (setx (setx (setx Ac Aa ({ Ad with fId:=Ab })) Aa ({ Ae with fW:=w64 (Ab + 1) })) Aa ({ Af with fH:=w64 ((w64 (Ab + 1)) + 1) })) Aa) fun Ag=>obind (ix (setx (setx (setx (setx Ac Aa ({ Ad with fId:=Ab })) Aa ({ Ae with fW:=w64 (Ab + 1) })) Aa ({ Af with fH:=w64 ((w64 (Ab + 1)) + 1) })) Aa ({ Ag with fD:=w64 ((w64 ((w64 (Ab + 1)) + 1)) + 1) })) Aa) fun Ah=>obind (ix (setx (setx (setx (setx (setx Ac Aa ({ Ad with fId:=Ab })) Aa ({ Ae with fW:=w64 (Ab + 1) })) Aa ({ Af with fH:=w64 ((w64 (Ab + 1)) + 1) })) Aa ({ Ag with fD:=w64 ((w64 ((w64 (Ab + 1)) + 1)) + 1) })) Aa ({ Ah with fTare:=w64 ((w64 ((w64 ((w64 (Ab + 1)) + 1)) + 1)) + 1) })) Aa) fun Ai=>obind (ix (setx (setx (setx (setx (setx (setx Ac Aa ({ Ad with fId:=Ab })) Aa ({ Ae with fW:=w64 (Ab + 1) })) Aa ({ Af with fH:=w64 ((w64 (Ab + 1)) + 1) })) Aa ({ Ag with fD:=w64 ((w64 ((w64 (Ab + 1)) + 1)) + 1) })) Aa ({ Ah with fTare:=w64 ((w64 ((w64 ((w64 (Ab + 1)) + 1)) + 1)) + 1) })) Aa ({ Ai with fGram:=w64 ((w64 ((w64 ((w64 ((w64 (Ab + 1)) + 1)) + 1)) + 1)) + 1) })) Aa) fun Aj=>k1 (setx (setx (setx (setx (setx (setx (setx Ac Aa ({ Ad with fId:=Ab })) Aa ({ Ae with fW:=w64 (Ab + 1) })) Aa ({ Af with fH:=w64 ((w64 (Ab + 1)) + 1) })) Aa ({ Ag with fD:=w64 ((w64 ((w64 (Ab + 1)) + 1)) + 1) })) Aa ({ Ah with fTare:=w64 ((w64 ((w64 ((w64 (Ab + 1)) + 1)) + 1)) + 1) })) Aa ({ Ai with fGram:=w64 ((w64 ((w64 ((w64 ((w64 (Ab + 1)) + 1)) + 1)) + 1)) + 1) })) Aa ({ Aj with fCost:=w64 ((w64 ((w64 ((w64 ((w64 ((w64 (Ab + 1)) + 1)) + 1)) + 1)) + 1)) + 1) })) (w64 ((w64 ((w64 ((w64 ((w64 ((w64 ((w64 (Ab + 1)) + 1)) + 1)) + 1)) + 1)) + 1)) + 1)) (w64 (Aa + 1)) else some (Ab,Ac)
def d_laws_markTypeS_L1 (fu:Nat)   : Nat → List Typ → Int → Int → Option (Int × (List Typ))
  | 0=>fun _ _ _=>none
  | n + 1=>d_laws_markTypeS_L1_B fu  (d_laws_markTypeS_L1 fu  n)
theorem d_laws_markTypeS_L1_s (fu:Nat)   (n:Nat):d_laws_markTypeS_L1 fu  (n + 1) = d_laws_markTypeS_L1_B fu  (d_laws_markTypeS_L1 fu  n):=z

def d_laws_markTypeS (fu:Nat) (a1:List Typ) (Aa:Int):Option (Int × (List Typ)) :=
  d_laws_markTypeS_L1 fu fu a1 Aa 0

def d_laws_markItemS_L1_B (fu:Nat)   (k1:List Item → Int → Int → Option (Int × (List Item))) (Ac:List Item) (Ab:Int) (Aa:Int):Option (Int × (List Item)) :=
  bif (decide (Aa < ((Ac.length:Int)))) then obind (ix Ac Aa) fun Ad=>obind (ix (setx Ac Aa ({ Ad with fId:=Ab })) Aa) fun Ae=>obind (ix (setx (setx Ac Aa ({ Ad with fId:=Ab })) Aa ({ Ae with fW:=w64 (Ab + 1) })) Aa) fun Af=>obind (ix (setx (setx (setx Ac Aa ({ Ad with fId:=Ab })) Aa ({ Ae with fW:=w64 (Ab + 1) })) Aa ({ Af with fH:=w64 ((w64 (Ab + 1)) + 1) })) Aa) fun Ag=>obind (ix (setx (setx (setx (setx Ac Aa ({ Ad with fId:=Ab })) Aa ({ Ae with fW:=w64 (Ab + 1) })) Aa ({ Af with fH:=w64 ((w64 (Ab + 1)) + 1) })) Aa ({ Ag with fD:=w64 ((w64 ((w64 (Ab + 1)) + 1)) + 1) })) Aa) fun Ah=>obind (ix (setx (setx (setx (setx (setx Ac Aa ({ Ad with fId:=Ab })) Aa ({ Ae with fW:=w64 (Ab + 1) })) Aa ({ Af with fH:=w64 ((w64 (Ab + 1)) + 1) })) Aa ({ Ag with fD:=w64 ((w64 ((w64 (Ab + 1)) + 1)) + 1) })) Aa ({ Ah with fGram:=w64 ((w64 ((w64 ((w64 (Ab + 1)) + 1)) + 1)) + 1) })) Aa) fun Ai=>obind (ix (setx (setx (setx (setx (setx (setx Ac Aa ({ Ad with fId:=Ab })) Aa ({ Ae with fW:=w64 (Ab + 1) })) Aa ({ Af with fH:=w64 ((w64 (Ab + 1)) + 1) })) Aa ({ Ag with fD:=w64 ((w64 ((w64 (Ab + 1)) + 1)) + 1) })) Aa ({ Ah with fGram:=w64 ((w64 ((w64 ((w64 (Ab + 1)) + 1)) + 1)) + 1) })) Aa ({ Ai with fClass:=w64 ((w64 ((w64 ((w64 ((w64 (Ab + 1)) + 1)) + 1)) + 1)) + 1) })) Aa) fun Aj=>k1 (setx (setx (setx (setx (setx (setx (setx Ac Aa ({ Ad with fId:=Ab })) Aa ({ Ae with fW:=w64 (Ab + 1) })) Aa ({ Af with fH:=w64 ((w64 (Ab + 1)) + 1) })) Aa ({ Ag with fD:=w64 ((w64 ((w64 (Ab + 1)) + 1)) + 1) })) Aa ({ Ah with fGram:=w64 ((w64 ((w64 ((w64 (Ab + 1)) + 1)) + 1)) + 1) })) Aa ({ Ai with fClass:=w64 ((w64 ((w64 ((w64 ((w64 (Ab + 1)) + 1)) + 1)) + 1)) + 1) })) Aa ({ Aj with fCount:=w64 ((w64 ((w64 ((w64 ((w64 ((w64 (Ab + 1)) + 1)) + 1)) + 1)) + 1)) + 1) })) (w64 ((w64 ((w64 ((w64 ((w64 ((w64 ((w64 (Ab + 1)) + 1)) + 1)) + 1)) + 1)) + 1)) + 1)) (w64 (Aa + 1)) else some (Ab,Ac)
def d_laws_markItemS_L1 (fu:Nat)   : Nat → List Item → Int → Int → Option (Int × (List Item))
  | 0=>fun _ _ _=>none
  | n + 1=>d_laws_markItemS_L1_B fu  (d_laws_markItemS_L1 fu  n)
theorem d_laws_markItemS_L1_s (fu:Nat)   (n:Nat):d_laws_markItemS_L1 fu  (n + 1) = d_laws_markItemS_L1_B fu  (d_laws_markItemS_L1 fu  n):=z

def d_laws_markItemS (fu:Nat) (a1:List Item) (Aa:Int):Option (Int × (List Item)) :=
  d_laws_markItemS_L1 fu fu a1 Aa 0

def d_laws_markRequest (fu:Nat) (a1:Request) (Ad:Int):Option (Int × Request) :=
  obind (d_laws_markPairS fu a1.fPairs Ad) fun Aa=>obind (d_laws_markTypeS fu a1.fTypes Aa.1) fun Ab=>obind (d_laws_markItemS fu a1.fItems Ab.1) fun Ac=>some (Ac.1,(⟨a1.fWay,a1.fPallet,a1.fClasses,Aa.2,Ab.2,a1.fMaster,Ac.2⟩:Request))

def d_laws_markIntS_L1_B (fu:Nat)   (k1:List Int → Int → Int → Option (Int × (List Int))) (Ab:List Int) (Ac:Int) (Aa:Int):Option (Int × (List Int)) :=
  bif (decide (Aa < ((Ab.length:Int)))) then obind (ix Ab Aa) fun Ad=>k1 (setx Ab Aa Ac) (w64 (Ac + 1)) (w64 (Aa + 1)) else some (Ac,Ab)
def d_laws_markIntS_L1 (fu:Nat)   : Nat → List Int → Int → Int → Option (Int × (List Int))
  | 0=>fun _ _ _=>none
  | n + 1=>d_laws_markIntS_L1_B fu  (d_laws_markIntS_L1 fu  n)
theorem d_laws_markIntS_L1_s (fu:Nat)   (n:Nat):d_laws_markIntS_L1 fu  (n + 1) = d_laws_markIntS_L1_B fu  (d_laws_markIntS_L1 fu  n):=z

def d_laws_markIntS (fu:Nat) (a1:List Int) (Aa:Int):Option (Int × (List Int)) :=
  d_laws_markIntS_L1 fu fu a1 Aa 0

def d_laws_markCartonS_L1_B (fu:Nat)   (k1:List Carton → Int → Int → Option (Int × (List Carton))) (Ac:List Carton) (Ab:Int) (Aa:Int):Option (Int × (List Carton)) :=
  bif (decide (Aa < ((Ac.length:Int)))) then obind (ix Ac Aa) fun Ad=>obind (ix (setx Ac Aa ((⟨Ab,Ad.fGroup,Ad.fUnits⟩:Carton))) Aa) fun Ae=>obind (ix (setx (setx Ac Aa ((⟨Ab,Ad.fGroup,Ad.fUnits⟩:Carton))) Aa ((⟨Ae.fType,w64 (Ab + 1),Ae.fUnits⟩:Carton))) Aa) fun Af=>obind (d_laws_markIntS fu Af.fUnits (w64 ((w64 (Ab + 1)) + 1))) fun Ag=>k1 (setx (setx (setx Ac Aa ((⟨Ab,Ad.fGroup,Ad.fUnits⟩:Carton))) Aa ((⟨Ae.fType,w64 (Ab + 1),Ae.fUnits⟩:Carton))) Aa ((⟨Af.fType,Af.fGroup,Ag.2⟩:Carton))) Ag.1 (w64 (Aa + 1)) else some (Ab,Ac)
def d_laws_markCartonS_L1 (fu:Nat)   : Nat → List Carton → Int → Int → Option (Int × (List Carton))
  | 0=>fun _ _ _=>none
  | n + 1=>d_laws_markCartonS_L1_B fu  (d_laws_markCartonS_L1 fu  n)
theorem d_laws_markCartonS_L1_s (fu:Nat)   (n:Nat):d_laws_markCartonS_L1 fu  (n + 1) = d_laws_markCartonS_L1_B fu  (d_laws_markCartonS_L1 fu  n):=z

def d_laws_markCartonS (fu:Nat) (a1:List Carton) (Aa:Int):Option (Int × (List Carton)) :=
  d_laws_markCartonS_L1 fu fu a1 Aa 0

def d_laws_markSpotS_L1_B (fu:Nat)   (k1:List Spot → Int → Int → Option (Int × (List Spot))) (Ac:List Spot) (Ab:Int) (Aa:Int):Option (Int × (List Spot)) :=
  bif (decide (Aa < ((Ac.length:Int)))) then obind (ix Ac Aa) fun Ad=>obind (ix (setx Ac Aa ({ Ad with fPallet:=Ab })) Aa) fun Ae=>obind (ix (setx (setx Ac Aa ({ Ad with fPallet:=Ab })) Aa ({ Ae with fX:=w64 (Ab + 1) })) Aa) fun Af=>obind (ix (setx (setx (setx Ac Aa ({ Ad with fPallet:=Ab })) Aa ({ Ae with fX:=w64 (Ab + 1) })) Aa ({ Af with fY:=w64 ((w64 (Ab + 1)) + 1) })) Aa) fun Ag=>k1 (setx (setx (setx (setx Ac Aa ({ Ad with fPallet:=Ab })) Aa ({ Ae with fX:=w64 (Ab + 1) })) Aa ({ Af with fY:=w64 ((w64 (Ab + 1)) + 1) })) Aa ({ Ag with fZ:=w64 ((w64 ((w64 (Ab + 1)) + 1)) + 1) })) (w64 ((w64 ((w64 ((w64 (Ab + 1)) + 1)) + 1)) + 1)) (w64 (Aa + 1)) else some (Ab,Ac)
def d_laws_markSpotS_L1 (fu:Nat)   : Nat → List Spot → Int → Int → Option (Int × (List Spot))
  | 0=>fun _ _ _=>none
  | n + 1=>d_laws_markSpotS_L1_B fu  (d_laws_markSpotS_L1 fu  n)
theorem d_laws_markSpotS_L1_s (fu:Nat)   (n:Nat):d_laws_markSpotS_L1 fu  (n + 1) = d_laws_markSpotS_L1_B fu  (d_laws_markSpotS_L1 fu  n):=z

def d_laws_markSpotS (fu:Nat) (a1:List Spot) (Aa:Int):Option (Int × (List Spot)) :=
  d_laws_markSpotS_L1 fu fu a1 Aa 0

def d_laws_markPlan (fu:Nat) (a1:Plan) (Ac:Int):Option (Int × Plan) :=
  obind (d_laws_markCartonS fu a1.fCartons Ac) fun Aa=>obind (d_laws_markSpotS fu a1.fSpots Aa.1) fun Ab=>some (Ab.1,(⟨Aa.2,Ab.2⟩:Plan))

def d_laws_heldIntS_L1_B (fu:Nat)  (a1:List Int) (k1:Int → Int → Option (Int)) (Aa:Int) (Ab:Int):Option (Int) :=
  bif (decide (Ab < ((a1.length:Int)))) then obind (ix a1 Ab) fun Ac=>bif (Ac != Aa) then some ((-1)) else k1 (w64 (Aa + 1)) (w64 (Ab + 1)) else some (Aa)
def d_laws_heldIntS_L1 (fu:Nat)  (a1:List Int):Nat → Int → Int → Option (Int)
  | 0=>fun _ _=>none
  | n + 1=>d_laws_heldIntS_L1_B fu a1 (d_laws_heldIntS_L1 fu a1 n)
theorem d_laws_heldIntS_L1_s (fu:Nat)  (a1:List Int) (n:Nat):d_laws_heldIntS_L1 fu a1 (n + 1) = d_laws_heldIntS_L1_B fu a1 (d_laws_heldIntS_L1 fu a1 n):=z

def d_laws_heldIntS (fu:Nat) (a1:List Int) (Aa:Int):Option (Int) :=
  d_laws_heldIntS_L1 fu a1 fu Aa 0

def d_laws_heldCartonS_L1_B (fu:Nat)  (a1:List Carton) (k1:Int → Int → Option (Int)) (Ab:Int) (Aa:Int):Option (Int) :=
  bif (decide (Aa < ((a1.length:Int)))) then obind (ix a1 Aa) fun Ac=>bif (Ac.fType != Ab) then some ((-1)) else obind (ix a1 Aa) fun Af=>bif (Ac.fGroup != (w64 (Ab + 1))) then some ((-1)) else obind (ix a1 Aa) fun Ae=>obind (d_laws_heldIntS fu Ac.fUnits (w64 ((w64 (Ab + 1)) + 1))) fun Ad=>bif (decide (Ad < 0)) then some ((-1)) else k1 Ad (w64 (Aa + 1)) else some (Ab)
def d_laws_heldCartonS_L1 (fu:Nat)  (a1:List Carton):Nat → Int → Int → Option (Int)
  | 0=>fun _ _=>none
  | n + 1=>d_laws_heldCartonS_L1_B fu a1 (d_laws_heldCartonS_L1 fu a1 n)
theorem d_laws_heldCartonS_L1_s (fu:Nat)  (a1:List Carton) (n:Nat):d_laws_heldCartonS_L1 fu a1 (n + 1) = d_laws_heldCartonS_L1_B fu a1 (d_laws_heldCartonS_L1 fu a1 n):=z

def d_laws_heldCartonS (fu:Nat) (a1:List Carton) (Aa:Int):Option (Int) :=
  d_laws_heldCartonS_L1 fu a1 fu Aa 0

def d_laws_heldSpotS_L1_B (fu:Nat)  (a1:List Spot) (k1:Int → Int → Option (Int)) (Aa:Int) (Ab:Int):Option (Int) :=
  bif (decide (Ab < ((a1.length:Int)))) then obind (ix a1 Ab) fun Ac=>bif (Ac.fPallet != Aa) then some ((-1)) else obind (ix a1 Ab) fun Ad=>bif (Ac.fX != (w64 (Aa + 1))) then some ((-1)) else obind (ix a1 Ab) fun Af=>bif (Ac.fY != (w64 ((w64 (Aa + 1)) + 1))) then some ((-1)) else obind (ix a1 Ab) fun Ae=>bif (Ac.fZ != (w64 ((w64 ((w64 (Aa + 1)) + 1)) + 1))) then some ((-1)) else k1 (w64 ((w64 ((w64 ((w64 (Aa + 1)) + 1)) + 1)) + 1)) (w64 (Ab + 1)) else some (Aa)
def d_laws_heldSpotS_L1 (fu:Nat)  (a1:List Spot):Nat → Int → Int → Option (Int)
  | 0=>fun _ _=>none
  | n + 1=>d_laws_heldSpotS_L1_B fu a1 (d_laws_heldSpotS_L1 fu a1 n)
theorem d_laws_heldSpotS_L1_s (fu:Nat)  (a1:List Spot) (n:Nat):d_laws_heldSpotS_L1 fu a1 (n + 1) = d_laws_heldSpotS_L1_B fu a1 (d_laws_heldSpotS_L1 fu a1 n):=z

def d_laws_heldSpotS (fu:Nat) (a1:List Spot) (Aa:Int):Option (Int) :=
  d_laws_heldSpotS_L1 fu a1 fu Aa 0

def d_laws_heldPlan (fu:Nat) (a1:Plan) (Ac:Int):Option (Int) :=
  obind (d_laws_heldCartonS fu a1.fCartons Ac) fun Aa=>bif (decide (Aa < 0)) then some ((-1)) else obind (d_laws_heldSpotS fu a1.fSpots Aa) fun Ab=>bif (decide (Ab < 0)) then some ((-1)) else some (Ab)

def d_laws_FnExactShuffled_J1 (fu:Nat) (Ag:List Carton) (Ad:List Spot) (Ab:Int × Plan) (Af:List Carton) (Ac:List Spot):Option (Bool) :=
  obind (d_laws_eqPlan fu ((⟨Af,Ac⟩:Plan)) ((⟨Ag,Ad⟩:Plan))) fun Ae=>bif (!Ae) then some (false) else obind (d_laws_heldPlan fu Ab.2 1) fun Aa=>bif (decide (Aa < 0)) then some (false) else bif (Aa != Ab.1) then some (false) else some (true)

def d_laws_FnExactShuffled_J2 (fu:Nat) (Af:Request) (Ad:Plan) (Ai:List Int) (Al:List Carton) (Ah:List Spot) (Ak:Plan)  : Option (Bool) :=
  obind (d_laws_markPlan fu Ak 1) fun Aa=>obind (d_laws_heldPlan fu Aa.2 1) fun Ab=>bif (decide (Ab < 0)) then some (false) else bif (Ab != Aa.1) then some (false) else obind (d_laws_toRequest fu Af) fun Aj=>obind (d_laws_toPlan fu Ad) fun Ag=>obind (d_laws_toIntS fu Ai) fun Ae=>obind (d_impl_Shuffled fu Aj Ag Ae) fun Ac=>d_laws_FnExactShuffled_J1 fu Al Ah Aa Ac.fCartons Ac.fSpots

def d_laws_FnExactShuffled_J3 (fu:Nat) (Aa:Request) (Ae:Plan) (Ah:List Int) (Ab:List Carton) (Af:List Spot):Option (Bool) :=
  obind (d_laws_toRequest fu Aa) fun Ai=>obind (d_laws_toPlan fu Ae) fun Ac=>obind (d_laws_toIntS fu Ah) fun Ag=>obind (d_impl_Shuffled fu Ai Ac Ag) fun Ad=>obind (d_laws_eqPlan fu Ad ((⟨Ab,Af⟩:Plan))) fun Am=>bif (!Am) then some (false) else obind (d_laws_toRequest fu Aa) fun Ar=>obind (d_laws_eqRequest fu Ai Ar) fun Ao=>bif (!Ao) then some (false) else obind (d_laws_toPlan fu Ae) fun Aq=>obind (d_laws_eqPlan fu Ac Aq) fun Al=>bif (!Al) then some (false) else obind (d_laws_toIntS fu Ah) fun At=>obind (d_laws_eqIntS fu Ag At) fun Ap=>bif (!Ap) then some (false) else obind (d_laws_markRequest fu Ai 1) fun Aj=>obind (d_laws_markPlan fu Ac Aj.1) fun Ak=>obind (d_laws_markIntS fu Ag Ak.1) fun As=>bif (decide (As.1 < 0)) then some (false) else obind (d_laws_eqPlan fu Ad ((⟨Ab,Af⟩:Plan))) fun Au=>bif (!Au) then some (false) else d_laws_FnExactShuffled_J2 fu Aa Ae Ah Ab Af Ad

def d_laws_FnExactShuffled (fu:Nat) (Ab:Request) (Aa:Plan) (Ac:List Int):Option (Bool) :=
  bif (decide (((Ac.length:Int)) > 1048576)) then some (true) else obind (d_laws_szRequest fu Ab 1048576) fun Ad=>bif (decide (Ad < 0)) then some (true) else obind (d_laws_szPlan fu Aa Ad) fun Af=>bif (decide (Af < 0)) then some (true) else obind (d_laws_toRequest fu Ab) fun Ag=>obind (d_laws_toPlan fu Aa) fun Ah=>obind (d_laws_toIntS fu Ac) fun Ai=>obind (d_spec_Shuffled fu Ag Ah Ai) fun Ae=>d_laws_FnExactShuffled_J3 fu Ab Aa Ac Ae.fCartons Ae.fSpots

end Go.Proofs.YtkkfmjpbiimkbaaGreat
