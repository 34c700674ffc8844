/- FnExactDropped: what the functions that it reaches compute,on plain data. Printed by gen.py. -/
import Derived.Test.YtkkfmjpbiimkbaaGreatExactFeasibleBD
set_option linter.unusedVariables false
namespace Go.Proofs.YtkkfmjpbiimkbaaGreat
open Go
def d_spec_l9Carton (fu:Nat) (x1:Carton):Option (Carton) :=
  obind (apnd 8 (([]:List Int)) x1.fUnits) fun Aa=>some ((⟨x1.fType,x1.fGroup,Aa⟩:Carton))

def d_spec_l13Copy_L1_B (fu:Nat)  (x1:Plan) (Af:List Spot) (k1:List Carton → Int → Option (Plan)) (Ab:List Carton) (Aa:Int):Option (Plan) :=
  bif (decide (Aa < ((x1.fCartons.length:Int)))) then obind (ix x1.fCartons Aa) fun Ac=>obind (d_spec_l9Carton fu Ac) fun Ad=>obind (apnd 40 Ab [Ad]) fun Ae=>k1 Ae (w64 (Aa + 1)) else some ((⟨Ab,Af⟩:Plan))
def d_spec_l13Copy_L1 (fu:Nat)  (x1:Plan) (Aa:List Spot):Nat → List Carton → Int → Option (Plan)
  | 0=>fun _ _=>none
  | n + 1=>d_spec_l13Copy_L1_B fu x1 Aa (d_spec_l13Copy_L1 fu x1 Aa n)
theorem d_spec_l13Copy_L1_s (fu:Nat)  (x1:Plan) (Aa:List Spot) (n:Nat):d_spec_l13Copy_L1 fu x1 Aa (n + 1) = d_spec_l13Copy_L1_B fu x1 Aa (d_spec_l13Copy_L1 fu x1 Aa n):=z

def d_spec_l13Copy (fu:Nat) (x1:Plan):Option (Plan) :=
  obind (apnd 32 (([]:List Spot)) x1.fSpots) fun Aa=>d_spec_l13Copy_L1 fu x1 Aa fu (([]:List Carton)) 0

def d_spec_l21Boxes_L1_B (fu:Nat)  (r1:Request) (x5:Plan) (k1:List Box → Int → Option ((List Box))) (Ab:List Box) (Aa:Int):Option ((List Box)) :=
  bif (decide (Aa < ((x5.fCartons.length:Int)))) then obind (ix x5.fCartons Aa) fun Ad=>obind (d_spec_BoxOf fu r1 Ad) fun Ae=>obind (apnd 32 Ab (([Ae]:List Box))) fun Ac=>k1 Ac (w64 (Aa + 1)) else some (Ab)
def d_spec_l21Boxes_L1 (fu:Nat)  (r1:Request) (x5:Plan):Nat → List Box → Int → Option ((List Box))
  | 0=>fun _ _=>none
  | n + 1=>d_spec_l21Boxes_L1_B fu r1 x5 (d_spec_l21Boxes_L1 fu r1 x5 n)
theorem d_spec_l21Boxes_L1_s (fu:Nat)  (r1:Request) (x5:Plan) (n:Nat):d_spec_l21Boxes_L1 fu r1 x5 (n + 1) = d_spec_l21Boxes_L1_B fu r1 x5 (d_spec_l21Boxes_L1 fu r1 x5 n):=z

def d_spec_l21Boxes (fu:Nat) (r1:Request) (x5:Plan):Option ((List Box)) :=
  d_spec_l21Boxes_L1 fu r1 x5 fu (([]:List Box)) 0

def d_spec_l21Free_J1 (fu:Nat) (k3:Int → Option (Bool)) (Aa:Int)  : Option (Bool) :=
  k3 (w64 (Aa + 1))

def d_spec_l21Free_L1_B (fu:Nat)  (Ab:List Box) (x5:Plan) (i9:Int) (Ag:Spot) (k3:Int → Option (Bool)) (Aa:Int):Option (Bool) :=
  bif (decide (Aa < ((Ab.length:Int)))) then bif (Aa != i9) then obind (ix Ab i9) fun Ac=>obind (ix Ab Aa) fun Ae=>obind (ix x5.fSpots Aa) fun Af=>obind (d_spec_Overlap fu Ac Ag Ae Af) fun Ad=>bif Ad then some (false) else d_spec_l21Free_J1 fu k3 Aa else d_spec_l21Free_J1 fu k3 Aa else some (true)
def d_spec_l21Free_L1 (fu:Nat)  (Ab:List Box) (x5:Plan) (i9:Int) (Aa:Spot):Nat → Int → Option (Bool)
  | 0=>fun _=>none
  | n + 1=>d_spec_l21Free_L1_B fu Ab x5 i9 Aa (d_spec_l21Free_L1 fu Ab x5 i9 Aa n)
theorem d_spec_l21Free_L1_s (fu:Nat)  (Ab:List Box) (x5:Plan) (i9:Int) (Aa:Spot) (n:Nat):d_spec_l21Free_L1 fu Ab x5 i9 Aa (n + 1) = d_spec_l21Free_L1_B fu Ab x5 i9 Aa (d_spec_l21Free_L1 fu Ab x5 i9 Aa n):=z

def d_spec_l21Free (fu:Nat) (Ab:List Box) (x5:Plan) (i9:Int) (Aa:Spot):Option (Bool) :=
  d_spec_l21Free_L1 fu Ab x5 i9 Aa fu 0

def d_spec_Dropped_J1 (fu:Nat) (Aa:List Spot → Int → Option (Plan)) (Ac:Int) (Ab:List Spot):Option (Plan) :=
  Aa Ab (w64 (Ac + 1))

def d_spec_Dropped_J2 (fu:Nat) (Ac:List Spot → Int → Option (Plan)) (Ab:List Spot) (Aa:Int) (Ad:Spot):Option (Plan) :=
  obind (ix Ab Aa) fun Ae=>d_spec_Dropped_J1 fu Ac Aa (setx Ab Aa Ad)

def d_spec_Dropped_L1_B (fu:Nat) (Ad:List Spot → Int → Option (Plan)) (Af:Plan) (Ah:(List Box)) (Ab:List Spot) (Ac:Int) (Ag:Spot → Option (Plan)) (Aa:Spot):Option (Plan) :=
  bif (decide (Aa.fZ > 0)) then obind (d_spec_l21Free fu Ah ((⟨Af.fCartons,Ab⟩:Plan)) Ac ((⟨Aa.fPallet,Aa.fX,Aa.fY,w64 (Aa.fZ - 1)⟩:Spot))) fun Ae=>bif (!Ae) then d_spec_Dropped_J2 fu Ad Ab Ac Aa else Ag ((⟨Aa.fPallet,Aa.fX,Aa.fY,w64 (Aa.fZ - 1)⟩:Spot)) else d_spec_Dropped_J2 fu Ad Ab Ac Aa
def d_spec_Dropped_L1 (fu:Nat) (Ad:List Spot → Int → Option (Plan)) (Ab:Plan) (Ac:(List Box)) (Aa:List Spot) (Ae:Int):Nat → Spot → Option (Plan)
  | 0=>fun _=>none
  | n + 1=>d_spec_Dropped_L1_B fu Ad Ab Ac Aa Ae (d_spec_Dropped_L1 fu Ad Ab Ac Aa Ae n)
theorem d_spec_Dropped_L1_s (fu:Nat) (Ad:List Spot → Int → Option (Plan)) (Ab:Plan) (Ac:(List Box)) (Aa:List Spot) (Ae:Int) (n:Nat):d_spec_Dropped_L1 fu Ad Ab Ac Aa Ae (n + 1) = d_spec_Dropped_L1_B fu Ad Ab Ac Aa Ae (d_spec_Dropped_L1 fu Ad Ab Ac Aa Ae n):=z

def d_spec_Dropped_L2_B (fu:Nat)  (Ac:Plan) (Ae:(List Box)) (Af:List Spot → Int → Option (Plan)) (Aa:List Spot) (Ab:Int):Option (Plan) :=
  bif (decide (Ab < ((Aa.length:Int)))) then obind (ix Aa Ab) fun Ad=>d_spec_Dropped_L1 fu Af Ac Ae Aa Ab fu Ad else some ((⟨Ac.fCartons,Aa⟩:Plan))
def d_spec_Dropped_L2 (fu:Nat)  (Ab:Plan) (Aa:(List Box)):Nat → List Spot → Int → Option (Plan)
  | 0=>fun _ _=>none
  | n + 1=>d_spec_Dropped_L2_B fu Ab Aa (d_spec_Dropped_L2 fu Ab Aa n)
theorem d_spec_Dropped_L2_s (fu:Nat)  (Ab:Plan) (Aa:(List Box)) (n:Nat):d_spec_Dropped_L2 fu Ab Aa (n + 1) = d_spec_Dropped_L2_B fu Ab Aa (d_spec_Dropped_L2 fu Ab Aa n):=z

def d_spec_Dropped (fu:Nat) (r1:Request) (x5:Plan):Option (Plan) :=
  obind (d_spec_l13Copy fu x5) fun Aa=>obind (d_spec_Feasible fu r1 x5) fun Ab=>bif (!Ab) then some (Aa) else obind (d_spec_l21Boxes fu r1 x5) fun Ac=>d_spec_Dropped_L2 fu Aa Ac fu Aa.fSpots 0

def d_impl_cloneCartons_L1_B (fu:Nat)  (Ad:List Carton) (k1:List Carton → Int → Option ((List Carton))) (Ac:List Carton) (Aa:Int):Option ((List Carton)) :=
  bif (decide (Aa < ((Ad.length:Int)))) then obind (ix Ad Aa) fun Ab=>obind (d_slices_Clone_int_int fu Ab.fUnits) fun Ae=>obind (apnd 40 Ac [(⟨Ab.fType,Ab.fGroup,Ae⟩:Carton)]) fun Af=>k1 Af (w64 (Aa + 1)) else some (Ac)
def d_impl_cloneCartons_L1 (fu:Nat)  (Aa:List Carton):Nat → List Carton → Int → Option ((List Carton))
  | 0=>fun _ _=>none
  | n + 1=>d_impl_cloneCartons_L1_B fu Aa (d_impl_cloneCartons_L1 fu Aa n)
theorem d_impl_cloneCartons_L1_s (fu:Nat)  (Aa:List Carton) (n:Nat):d_impl_cloneCartons_L1 fu Aa (n + 1) = d_impl_cloneCartons_L1_B fu Aa (d_impl_cloneCartons_L1 fu Aa n):=z

def d_impl_cloneCartons (fu:Nat) (Aa:List Carton):Option ((List Carton)) :=
  d_impl_cloneCartons_L1 fu Aa fu (([]:List Carton)) 0

def d_slices_Clone_impl_Spot_impl_Spot (fu:Nat) (Ab:List Spot):Option ((List Spot)) :=
  obind (apnd 32 (([]:List Spot)) Ab) fun Aa=>some (Aa)

def d_impl_clonePlan (fu:Nat) (x1:Plan):Option (Plan) :=
  obind (d_impl_cloneCartons fu x1.fCartons) fun Aa=>obind (d_slices_Clone_impl_Spot_impl_Spot fu x1.fSpots) fun Ab=>some ((⟨Aa,Ab⟩:Plan))

def d_impl_Dropped_J1 (fu:Nat) (Ab:List Spot → Int → Option (Plan)) (Aa:Int) (Ac:List Spot):Option (Plan) :=
  Ab Ac (w64 (Aa + 1))

def d_impl_Dropped_J2 (fu:Nat) (Aa:Bool → Int → Option (Plan)) (Ab:Int) (Ac:Bool):Option (Plan) :=
  Aa Ac (w64 (Ab + 1))

def d_impl_Dropped_L1_B (fu:Nat) (Ai:List Spot → Int → Option (Plan)) (Ak:List Spot → Option (Plan)) (Ag:List Box) (Ac:Int) (Am:Box) (Ad:List Spot) (Aa:Spot) (Ae:Bool → Int → Option (Plan)) (Af:Bool) (Ab:Int):Option (Plan) :=
  bif (decide (Ab < ((Ag.length:Int)))) then obind (ix Ag Ab) fun Ah=>bif Af then d_impl_Dropped_J2 fu Ae Ab true else bif (Ab != Ac) then obind (ix Ad Ab) fun Aj=>obind (d_impl_Overlap fu Am ((⟨Aa.fPallet,Aa.fX,Aa.fY,w64 (Aa.fZ - 1)⟩:Spot)) Ah Aj) fun Al=>d_impl_Dropped_J2 fu Ae Ab Al else d_impl_Dropped_J2 fu Ae Ab false else bif Af then d_impl_Dropped_J1 fu Ai Ac Ad else obind (ix Ad Ac) fun Ao=>Ak (setx Ad Ac ((⟨Aa.fPallet,Aa.fX,Aa.fY,w64 (Aa.fZ - 1)⟩:Spot)))
def d_impl_Dropped_L1 (fu:Nat) (Ac:List Spot → Int → Option (Plan)) (Ad:List Spot → Option (Plan)) (Af:List Box) (Aa:Int) (Ag:Box) (Ae:List Spot) (Ab:Spot):Nat → Bool → Int → Option (Plan)
  | 0=>fun _ _=>none
  | n + 1=>d_impl_Dropped_L1_B fu Ac Ad Af Aa Ag Ae Ab (d_impl_Dropped_L1 fu Ac Ad Af Aa Ag Ae Ab n)
theorem d_impl_Dropped_L1_s (fu:Nat) (Ac:List Spot → Int → Option (Plan)) (Ad:List Spot → Option (Plan)) (Af:List Box) (Aa:Int) (Ag:Box) (Ae:List Spot) (Ab:Spot) (n:Nat):d_impl_Dropped_L1 fu Ac Ad Af Aa Ag Ae Ab (n + 1) = d_impl_Dropped_L1_B fu Ac Ad Af Aa Ag Ae Ab (d_impl_Dropped_L1 fu Ac Ad Af Aa Ag Ae Ab n):=z

def d_impl_Dropped_L2_B (fu:Nat) (Ad:List Spot → Int → Option (Plan)) (Af:List Box) (Aa:Int) (Ag:Box) (Ae:List Spot → Option (Plan)) (Ab:List Spot):Option (Plan) :=
  obind (ix Ab Aa) fun Ac=>bif (decide (Ac.fZ > 0)) then obind (ix Ab Aa) fun Ah=>d_impl_Dropped_L1 fu Ad Ae Af Aa Ag Ab Ac fu false 0 else d_impl_Dropped_J1 fu Ad Aa Ab
def d_impl_Dropped_L2 (fu:Nat) (Ab:List Spot → Int → Option (Plan)) (Ac:List Box) (Aa:Int) (Ad:Box):Nat → List Spot → Option (Plan)
  | 0=>fun _=>none
  | n + 1=>d_impl_Dropped_L2_B fu Ab Ac Aa Ad (d_impl_Dropped_L2 fu Ab Ac Aa Ad n)
theorem d_impl_Dropped_L2_s (fu:Nat) (Ab:List Spot → Int → Option (Plan)) (Ac:List Box) (Aa:Int) (Ad:Box) (n:Nat):d_impl_Dropped_L2 fu Ab Ac Aa Ad (n + 1) = d_impl_Dropped_L2_B fu Ab Ac Aa Ad (d_impl_Dropped_L2 fu Ab Ac Aa Ad n):=z

def d_impl_Dropped_L3_B (fu:Nat)  (Ad:Plan) (Ab:List Box) (Ae:List Spot → Int → Option (Plan)) (Ac:List Spot) (Aa:Int):Option (Plan) :=
  bif (decide (Aa < ((Ab.length:Int)))) then obind (ix Ab Aa) fun Af=>d_impl_Dropped_L2 fu Ae Ab Aa Af fu Ac else some ((⟨Ad.fCartons,Ac⟩:Plan))
def d_impl_Dropped_L3 (fu:Nat)  (Ab:Plan) (Aa:List Box):Nat → List Spot → Int → Option (Plan)
  | 0=>fun _ _=>none
  | n + 1=>d_impl_Dropped_L3_B fu Ab Aa (d_impl_Dropped_L3 fu Ab Aa n)
theorem d_impl_Dropped_L3_s (fu:Nat)  (Ab:Plan) (Aa:List Box) (n:Nat):d_impl_Dropped_L3 fu Ab Aa (n + 1) = d_impl_Dropped_L3_B fu Ab Aa (d_impl_Dropped_L3 fu Ab Aa n):=z

def d_impl_Dropped_L4_B (fu:Nat)  (r1:Request) (x5:Plan) (Ab:Plan) (k1:List Box → Int → Option (Plan)) (Ac:List Box) (Aa:Int):Option (Plan) :=
  bif (decide (Aa < ((x5.fCartons.length:Int)))) then obind (ix x5.fCartons Aa) fun Ad=>obind (d_impl_BoxOf fu r1 Ad) fun Af=>obind (apnd 32 Ac (([Af]:List Box))) fun Ae=>k1 Ae (w64 (Aa + 1)) else d_impl_Dropped_L3 fu Ab Ac fu Ab.fSpots 0
def d_impl_Dropped_L4 (fu:Nat)  (r1:Request) (x5:Plan) (Aa:Plan):Nat → List Box → Int → Option (Plan)
  | 0=>fun _ _=>none
  | n + 1=>d_impl_Dropped_L4_B fu r1 x5 Aa (d_impl_Dropped_L4 fu r1 x5 Aa n)
theorem d_impl_Dropped_L4_s (fu:Nat)  (r1:Request) (x5:Plan) (Aa:Plan) (n:Nat):d_impl_Dropped_L4 fu r1 x5 Aa (n + 1) = d_impl_Dropped_L4_B fu r1 x5 Aa (d_impl_Dropped_L4 fu r1 x5 Aa n):=z

def d_impl_Dropped (fu:Nat) (r1:Request) (x5:Plan):Option (Plan) :=
  obind (d_impl_clonePlan fu x5) fun Aa=>obind (d_impl_Feasible fu r1 x5) fun Ab=>bif (!Ab) then some (Aa) else d_impl_Dropped_L4 fu r1 x5 Aa fu (([]:List Box)) 0

def d_laws_markPairS_L1_B (fu:Nat)   (k1:List Pair → Int → Int → Option (Int × (List Pair))) (Ac:List Pair) (Ab:Int) (Aa:Int):Option (Int × (List Pair)) :=
  bif (decide (Aa < ((Ac.length:Int)))) then obind (ix Ac Aa) fun Ad=>obind (ix (setx Ac Aa ({ Ad with fA:=Ab })) Aa) fun Ae=>k1 (setx (setx Ac Aa ({ Ad with fA:=Ab })) Aa ({ Ae with fB:=w64 (Ab + 1) })) (w64 ((w64 (Ab + 1)) + 1)) (w64 (Aa + 1)) else some (Ab,Ac)
def d_laws_markPairS_L1 (fu:Nat)   : Nat → List Pair → Int → Int → Option (Int × (List Pair))
  | 0=>fun _ _ _=>none
  | n + 1=>d_laws_markPairS_L1_B fu  (d_laws_markPairS_L1 fu  n)
theorem d_laws_markPairS_L1_s (fu:Nat)   (n:Nat):d_laws_markPairS_L1 fu  (n + 1) = d_laws_markPairS_L1_B fu  (d_laws_markPairS_L1 fu  n):=z

def d_laws_markPairS (fu:Nat) (a1:List Pair) (Aa:Int):Option (Int × (List Pair)) :=
  d_laws_markPairS_L1 fu fu a1 Aa 0

def d_laws_markTypeS_L1_B (fu:Nat)   (k1:List Typ → Int → Int → Option (Int × (List Typ))) (Ac:List Typ) (Ab:Int) (Aa:Int):Option (Int × (List Typ)) :=
  bif (decide (Aa < ((Ac.length:Int)))) then obind (ix Ac Aa) fun Ad=>obind (ix (setx Ac Aa ({ Ad with fId:=Ab })) Aa) fun Ae=>obind (ix (setx (setx Ac Aa ({ Ad with fId:=Ab })) Aa ({ Ae with fW:=w64 (Ab + 1) })) Aa) fun Af=>obind (ix (setx (setx (setx Ac Aa ({ Ad with fId:=Ab })) Aa ({ Ae with fW:=w64 (Ab + 1) })) Aa ({ Af with fH:=w64 ((w64 (Ab + 1)) + 1) })) Aa) fun Ag=>obind (ix (setx (setx (setx (setx Ac Aa ({ Ad with fId:=Ab })) Aa ({ Ae with fW:=w64 (Ab + 1) })) Aa ({ Af with fH:=w64 ((w64 (Ab + 1)) + 1) })) Aa ({ Ag with fD:=w64 ((w64 ((w64 (Ab + 1)) + 1)) + 1) })) Aa) fun Ah=>obind (ix (setx (setx (setx (setx (setx Ac Aa ({ Ad with fId:=Ab })) Aa ({ Ae with fW:=w64 (Ab + 1) })) Aa ({ Af with fH:=w64 ((w64 (Ab + 1)) + 1) })) Aa ({ Ag with fD:=w64 ((w64 ((w64 (Ab + 1)) + 1)) + 1) })) Aa ({ Ah with fTare:=w64 ((w64 ((w64 ((w64 (Ab + 1)) + 1)) + 1)) + 1) })) Aa) fun Ai=>obind (ix (setx (setx (setx (setx (setx (setx Ac Aa ({ Ad with fId:=Ab })) Aa ({ Ae with fW:=w64 (Ab + 1) })) Aa ({ Af with fH:=w64 ((w64 (Ab + 1)) + 1) })) Aa ({ Ag with fD:=w64 ((w64 ((w64 (Ab + 1)) + 1)) + 1) })) Aa ({ Ah with fTare:=w64 ((w64 ((w64 ((w64 (Ab + 1)) + 1)) + 1)) + 1) })) Aa ({ Ai with fGram:=w64 ((w64 ((w64 ((w64 ((w64 (Ab + 1)) + 1)) + 1)) + 1)) + 1) })) Aa) fun Aj=>k1 (setx (setx (setx (setx (setx (setx (setx Ac Aa ({ Ad with fId:=Ab })) Aa ({ Ae with fW:=w64 (Ab + 1) })) Aa ({ Af with fH:=w64 ((w64 (Ab + 1)) + 1) })) Aa ({ Ag with fD:=w64 ((w64 ((w64 (Ab + 1)) + 1)) + 1) })) Aa ({ Ah with fTare:=w64 ((w64 ((w64 ((w64 (Ab + 1)) + 1)) + 1)) + 1) })) Aa ({ Ai with fGram:=w64 ((w64 ((w64 ((w64 ((w64 (Ab + 1)) + 1)) + 1)) + 1)) + 1) })) Aa ({ Aj with fCost:=w64 ((w64 ((w64 ((w64 ((w64 ((w64 (Ab + 1)) + 1)) + 1)) + 1)) + 1)) + 1) })) (w64 ((w64 ((w64 ((w64 ((w64 ((w64 ((w64 (Ab + 1)) + 1)) + 1)) + 1)) + 1)) + 1)) + 1)) (w64 (Aa + 1)) else some (Ab,Ac)
def d_laws_markTypeS_L1 (fu:Nat)   : Nat → List Typ → Int → Int → Option (Int × (List Typ))
  | 0=>fun _ _ _=>none
  | n + 1=>d_laws_markTypeS_L1_B fu  (d_laws_markTypeS_L1 fu  n)
theorem d_laws_markTypeS_L1_s (fu:Nat)   (n:Nat):d_laws_markTypeS_L1 fu  (n + 1) = d_laws_markTypeS_L1_B fu  (d_laws_markTypeS_L1 fu  n):=z

def d_laws_markTypeS (fu:Nat) (a1:List Typ) (Aa:Int):Option (Int × (List Typ)) :=
  d_laws_markTypeS_L1 fu fu a1 Aa 0

def d_laws_markItemS_L1_B (fu:Nat)   (k1:List Item → Int → Int → Option (Int × (List Item))) (Ac:List Item) (Ab:Int) (Aa:Int):Option (Int × (List Item)) :=
  bif (decide (Aa < ((Ac.length:Int)))) then obind (ix Ac Aa) fun Ad=>obind (ix (setx Ac Aa ({ Ad with fId:=Ab })) Aa) fun Ae=>obind (ix (setx (setx Ac Aa ({ Ad with fId:=Ab })) Aa ({ Ae with fW:=w64 (Ab + 1) })) Aa) fun Af=>obind (ix (setx (setx (setx Ac Aa ({ Ad with fId:=Ab })) Aa ({ Ae with fW:=w64 (Ab + 1) })) Aa ({ Af with fH:=w64 ((w64 (Ab + 1)) + 1) })) Aa) fun Ag=>obind (ix (setx (setx (setx (setx Ac Aa ({ Ad with fId:=Ab })) Aa ({ Ae with fW:=w64 (Ab + 1) })) Aa ({ Af with fH:=w64 ((w64 (Ab + 1)) + 1) })) Aa ({ Ag with fD:=w64 ((w64 ((w64 (Ab + 1)) + 1)) + 1) })) Aa) fun Ah=>obind (ix (setx (setx (setx (setx (setx Ac Aa ({ Ad with fId:=Ab })) Aa ({ Ae with fW:=w64 (Ab + 1) })) Aa ({ Af with fH:=w64 ((w64 (Ab + 1)) + 1) })) Aa ({ Ag with fD:=w64 ((w64 ((w64 (Ab + 1)) + 1)) + 1) })) Aa ({ Ah with fGram:=w64 ((w64 ((w64 ((w64 (Ab + 1)) + 1)) + 1)) + 1) })) Aa) fun Ai=>obind (ix (setx (setx (setx (setx (setx (setx Ac Aa ({ Ad with fId:=Ab })) Aa ({ Ae with fW:=w64 (Ab + 1) })) Aa ({ Af with fH:=w64 ((w64 (Ab + 1)) + 1) })) Aa ({ Ag with fD:=w64 ((w64 ((w64 (Ab + 1)) + 1)) + 1) })) Aa ({ Ah with fGram:=w64 ((w64 ((w64 ((w64 (Ab + 1)) + 1)) + 1)) + 1) })) Aa ({ Ai with fClass:=w64 ((w64 ((w64 ((w64 ((w64 (Ab + 1)) + 1)) + 1)) + 1)) + 1) })) Aa) fun Aj=>k1 (setx (setx (setx (setx (setx (setx (setx Ac Aa ({ Ad with fId:=Ab })) Aa ({ Ae with fW:=w64 (Ab + 1) })) Aa ({ Af with fH:=w64 ((w64 (Ab + 1)) + 1) })) Aa ({ Ag with fD:=w64 ((w64 ((w64 (Ab + 1)) + 1)) + 1) })) Aa ({ Ah with fGram:=w64 ((w64 ((w64 ((w64 (Ab + 1)) + 1)) + 1)) + 1) })) Aa ({ Ai with fClass:=w64 ((w64 ((w64 ((w64 ((w64 (Ab + 1)) + 1)) + 1)) + 1)) + 1) })) Aa ({ Aj with fCount:=w64 ((w64 ((w64 ((w64 ((w64 ((w64 (Ab + 1)) + 1)) + 1)) + 1)) + 1)) + 1) })) (w64 ((w64 ((w64 ((w64 ((w64 ((w64 ((w64 (Ab + 1)) + 1)) + 1)) + 1)) + 1)) + 1)) + 1)) (w64 (Aa + 1)) else some (Ab,Ac)
def d_laws_markItemS_L1 (fu:Nat)   : Nat → List Item → Int → Int → Option (Int × (List Item))
  | 0=>fun _ _ _=>none
  | n + 1=>d_laws_markItemS_L1_B fu  (d_laws_markItemS_L1 fu  n)
theorem d_laws_markItemS_L1_s (fu:Nat)   (n:Nat):d_laws_markItemS_L1 fu  (n + 1) = d_laws_markItemS_L1_B fu  (d_laws_markItemS_L1 fu  n):=z

def d_laws_markItemS (fu:Nat) (a1:List Item) (Aa:Int):Option (Int × (List Item)) :=
  d_laws_markItemS_L1 fu fu a1 Aa 0

def d_laws_markRequest (fu:Nat) (a1:Request) (Ad:Int):Option (Int × Request) :=
  obind (d_laws_markPairS fu a1.fPairs Ad) fun Aa=>obind (d_laws_markTypeS fu a1.fTypes Aa.1) fun Ab=>obind (d_laws_markItemS fu a1.fItems Ab.1) fun Ac=>some (Ac.1,(⟨a1.fWay,a1.fPallet,a1.fClasses,Aa.2,Ab.2,a1.fMaster,Ac.2⟩:Request))

def d_laws_markIntS_L1_B (fu:Nat)   (k1:List Int → Int → Int → Option (Int × (List Int))) (Aa:List Int) (Ac:Int) (Ab:Int):Option (Int × (List Int)) :=
  bif (decide (Ab < ((Aa.length:Int)))) then obind (ix Aa Ab) fun Ad=>k1 (setx Aa Ab Ac) (w64 (Ac + 1)) (w64 (Ab + 1)) else some (Ac,Aa)
def d_laws_markIntS_L1 (fu:Nat)   : Nat → List Int → Int → Int → Option (Int × (List Int))
  | 0=>fun _ _ _=>none
  | n + 1=>d_laws_markIntS_L1_B fu  (d_laws_markIntS_L1 fu  n)
theorem d_laws_markIntS_L1_s (fu:Nat)   (n:Nat):d_laws_markIntS_L1 fu  (n + 1) = d_laws_markIntS_L1_B fu  (d_laws_markIntS_L1 fu  n):=z

def d_laws_markIntS (fu:Nat) (a1:List Int) (Aa:Int):Option (Int × (List Int)) :=
  d_laws_markIntS_L1 fu fu a1 Aa 0

def d_laws_markCartonS_L1_B (fu:Nat)   (k1:List Carton → Int → Int → Option (Int × (List Carton))) (Ac:List Carton) (Ab:Int) (Aa:Int):Option (Int × (List Carton)) :=
  bif (decide (Aa < ((Ac.length:Int)))) then obind (ix Ac Aa) fun Ad=>obind (ix (setx Ac Aa ((⟨Ab,Ad.fGroup,Ad.fUnits⟩:Carton))) Aa) fun Ae=>obind (ix (setx (setx Ac Aa ((⟨Ab,Ad.fGroup,Ad.fUnits⟩:Carton))) Aa ((⟨Ae.fType,w64 (Ab + 1),Ae.fUnits⟩:Carton))) Aa) fun Af=>obind (d_laws_markIntS fu Af.fUnits (w64 ((w64 (Ab + 1)) + 1))) fun Ag=>k1 (setx (setx (setx Ac Aa ((⟨Ab,Ad.fGroup,Ad.fUnits⟩:Carton))) Aa ((⟨Ae.fType,w64 (Ab + 1),Ae.fUnits⟩:Carton))) Aa ((⟨Af.fType,Af.fGroup,Ag.2⟩:Carton))) Ag.1 (w64 (Aa + 1)) else some (Ab,Ac)
def d_laws_markCartonS_L1 (fu:Nat)   : Nat → List Carton → Int → Int → Option (Int × (List Carton))
  | 0=>fun _ _ _=>none
  | n + 1=>d_laws_markCartonS_L1_B fu  (d_laws_markCartonS_L1 fu  n)
theorem d_laws_markCartonS_L1_s (fu:Nat)   (n:Nat):d_laws_markCartonS_L1 fu  (n + 1) = d_laws_markCartonS_L1_B fu  (d_laws_markCartonS_L1 fu  n):=z

def d_laws_markCartonS (fu:Nat) (a1:List Carton) (Aa:Int):Option (Int × (List Carton)) :=
  d_laws_markCartonS_L1 fu fu a1 Aa 0

def d_laws_markSpotS_L1_B (fu:Nat)   (k1:List Spot → Int → Int → Option (Int × (List Spot))) (Ac:List Spot) (Ab:Int) (Aa:Int):Option (Int × (List Spot)) :=
  bif (decide (Aa < ((Ac.length:Int)))) then obind (ix Ac Aa) fun Ad=>obind (ix (setx Ac Aa ({ Ad with fPallet:=Ab })) Aa) fun Ae=>obind (ix (setx (setx Ac Aa ({ Ad with fPallet:=Ab })) Aa ({ Ae with fX:=w64 (Ab + 1) })) Aa) fun Af=>obind (ix (setx (setx (setx Ac Aa ({ Ad with fPallet:=Ab })) Aa ({ Ae with fX:=w64 (Ab + 1) })) Aa ({ Af with fY:=w64 ((w64 (Ab + 1)) + 1) })) Aa) fun Ag=>k1 (setx (setx (setx (setx Ac Aa ({ Ad with fPallet:=Ab })) Aa ({ Ae with fX:=w64 (Ab + 1) })) Aa ({ Af with fY:=w64 ((w64 (Ab + 1)) + 1) })) Aa ({ Ag with fZ:=w64 ((w64 ((w64 (Ab + 1)) + 1)) + 1) })) (w64 ((w64 ((w64 ((w64 (Ab + 1)) + 1)) + 1)) + 1)) (w64 (Aa + 1)) else some (Ab,Ac)
def d_laws_markSpotS_L1 (fu:Nat)   : Nat → List Spot → Int → Int → Option (Int × (List Spot))
  | 0=>fun _ _ _=>none
  | n + 1=>d_laws_markSpotS_L1_B fu  (d_laws_markSpotS_L1 fu  n)
theorem d_laws_markSpotS_L1_s (fu:Nat)   (n:Nat):d_laws_markSpotS_L1 fu  (n + 1) = d_laws_markSpotS_L1_B fu  (d_laws_markSpotS_L1 fu  n):=z

def d_laws_markSpotS (fu:Nat) (a1:List Spot) (Aa:Int):Option (Int × (List Spot)) :=
  d_laws_markSpotS_L1 fu fu a1 Aa 0

def d_laws_markPlan (fu:Nat) (a1:Plan) (Ac:Int):Option (Int × Plan) :=
  obind (d_laws_markCartonS fu a1.fCartons Ac) fun Aa=>obind (d_laws_markSpotS fu a1.fSpots Aa.1) fun Ab=>some (Ab.1,(⟨Aa.2,Ab.2⟩:Plan))

def d_laws_heldIntS_L1_B (fu:Nat)  (a1:List Int) (k1:Int → Int → Option (Int)) (Aa:Int) (Ab:Int):Option (Int) :=
  bif (decide (Ab < ((a1.length:Int)))) then obind (ix a1 Ab) fun Ac=>bif (Ac != Aa) then some ((-1)) else k1 (w64 (Aa + 1)) (w64 (Ab + 1)) else some (Aa)
def d_laws_heldIntS_L1 (fu:Nat)  (a1:List Int):Nat → Int → Int → Option (Int)
  | 0=>fun _ _=>none
  | n + 1=>d_laws_heldIntS_L1_B fu a1 (d_laws_heldIntS_L1 fu a1 n)
theorem d_laws_heldIntS_L1_s (fu:Nat)  (a1:List Int) (n:Nat):d_laws_heldIntS_L1 fu a1 (n + 1) = d_laws_heldIntS_L1_B fu a1 (d_laws_heldIntS_L1 fu a1 n):=z

def d_laws_heldIntS (fu:Nat) (a1:List Int) (Aa:Int):Option (Int) :=
  d_laws_heldIntS_L1 fu a1 fu Aa 0

def d_laws_heldCartonS_L1_B (fu:Nat)  (a1:List Carton) (k1:Int → Int → Option (Int)) (Ab:Int) (Aa:Int):Option (Int) :=
  bif (decide (Aa < ((a1.length:Int)))) then obind (ix a1 Aa) fun Ac=>bif (Ac.fType != Ab) then some ((-1)) else obind (ix a1 Aa) fun Af=>bif (Ac.fGroup != (w64 (Ab + 1))) then some ((-1)) else obind (ix a1 Aa) fun Ae=>obind (d_laws_heldIntS fu Ac.fUnits (w64 ((w64 (Ab + 1)) + 1))) fun Ad=>bif (decide (Ad < 0)) then some ((-1)) else k1 Ad (w64 (Aa + 1)) else some (Ab)
def d_laws_heldCartonS_L1 (fu:Nat)  (a1:List Carton):Nat → Int → Int → Option (Int)
  | 0=>fun _ _=>none
  | n + 1=>d_laws_heldCartonS_L1_B fu a1 (d_laws_heldCartonS_L1 fu a1 n)
theorem d_laws_heldCartonS_L1_s (fu:Nat)  (a1:List Carton) (n:Nat):d_laws_heldCartonS_L1 fu a1 (n + 1) = d_laws_heldCartonS_L1_B fu a1 (d_laws_heldCartonS_L1 fu a1 n):=z

def d_laws_heldCartonS (fu:Nat) (a1:List Carton) (Aa:Int):Option (Int) :=
  d_laws_heldCartonS_L1 fu a1 fu Aa 0

def d_laws_heldSpotS_L1_B (fu:Nat)  (a1:List Spot) (k1:Int → Int → Option (Int)) (Ab:Int) (Aa:Int):Option (Int) :=
  bif (decide (Aa < ((a1.length:Int)))) then obind (ix a1 Aa) fun Ac=>bif (Ac.fPallet != Ab) then some ((-1)) else obind (ix a1 Aa) fun Ad=>bif (Ac.fX != (w64 (Ab + 1))) then some ((-1)) else obind (ix a1 Aa) fun Af=>bif (Ac.fY != (w64 ((w64 (Ab + 1)) + 1))) then some ((-1)) else obind (ix a1 Aa) fun Ae=>bif (Ac.fZ != (w64 ((w64 ((w64 (Ab + 1)) + 1)) + 1))) then some ((-1)) else k1 (w64 ((w64 ((w64 ((w64 (Ab + 1)) + 1)) + 1)) + 1)) (w64 (Aa + 1)) else some (Ab)
def d_laws_heldSpotS_L1 (fu:Nat)  (a1:List Spot):Nat → Int → Int → Option (Int)
  | 0=>fun _ _=>none
  | n + 1=>d_laws_heldSpotS_L1_B fu a1 (d_laws_heldSpotS_L1 fu a1 n)
theorem d_laws_heldSpotS_L1_s (fu:Nat)  (a1:List Spot) (n:Nat):d_laws_heldSpotS_L1 fu a1 (n + 1) = d_laws_heldSpotS_L1_B fu a1 (d_laws_heldSpotS_L1 fu a1 n):=z

def d_laws_heldSpotS (fu:Nat) (a1:List Spot) (Aa:Int):Option (Int) :=
  d_laws_heldSpotS_L1 fu a1 fu Aa 0

def d_laws_heldPlan (fu:Nat) (a1:Plan) (Ac:Int):Option (Int) :=
  obind (d_laws_heldCartonS fu a1.fCartons Ac) fun Aa=>bif (decide (Aa < 0)) then some ((-1)) else obind (d_laws_heldSpotS fu a1.fSpots Aa) fun Ab=>bif (decide (Ab < 0)) then some ((-1)) else some (Ab)

def d_laws_FnExactDropped_J1 (fu:Nat) (Ac:List Carton) (Ad:List Spot) (Aa:Int × Plan) (Ag:List Carton) (Ae:List Spot):Option (Bool) :=
  obind (d_laws_eqPlan fu ((⟨Ag,Ae⟩:Plan)) ((⟨Ac,Ad⟩:Plan))) fun Af=>bif (!Af) then some (false) else obind (d_laws_heldPlan fu Aa.2 1) fun Ab=>bif (decide (Ab < 0)) then some (false) else bif (Ab != Aa.1) then some (false) else some (true)

def d_laws_FnExactDropped_J2 (fu:Nat) (Ai:Request) (Af:Plan) (Ag:List Carton) (Ah:List Spot) (Ae:Plan)  : Option (Bool) :=
  obind (d_laws_markPlan fu Ae 1) fun Aa=>obind (d_laws_heldPlan fu Aa.2 1) fun Ac=>bif (decide (Ac < 0)) then some (false) else bif (Ac != Aa.1) then some (false) else obind (d_laws_toRequest fu Ai) fun Ad=>obind (d_laws_toPlan fu Af) fun Aj=>obind (d_impl_Dropped fu Ad Aj) fun Ab=>d_laws_FnExactDropped_J1 fu Ag Ah Aa Ab.fCartons Ab.fSpots

def d_laws_FnExactDropped_J3 (fu:Nat) (Af:Request) (Ac:Plan) (Ad:List Carton) (Ae:List Spot):Option (Bool) :=
  obind (d_laws_toRequest fu Af) fun Ab=>obind (d_laws_toPlan fu Ac) fun Ag=>obind (d_impl_Dropped fu Ab Ag) fun Aa=>obind (d_laws_eqPlan fu Aa ((⟨Ad,Ae⟩:Plan))) fun Ap=>bif (!Ap) then some (false) else obind (d_laws_toRequest fu Af) fun Am=>obind (d_laws_eqRequest fu Ab Am) fun Ak=>bif (!Ak) then some (false) else obind (d_laws_toPlan fu Ac) fun Ao=>obind (d_laws_eqPlan fu Ag Ao) fun Ah=>bif (!Ah) then some (false) else obind (d_laws_markRequest fu Ab 1) fun Al=>obind (d_laws_markPlan fu Ag Al.1) fun Aj=>bif (decide (Aj.1 < 0)) then some (false) else obind (d_laws_eqPlan fu Aa ((⟨Ad,Ae⟩:Plan))) fun Ai=>bif (!Ai) then some (false) else d_laws_FnExactDropped_J2 fu Af Ac Ad Ae Aa

def d_laws_FnExactDropped (fu:Nat) (Ab:Request) (Aa:Plan):Option (Bool) :=
  obind (d_laws_szRequest fu Ab 1048576) fun Ac=>bif (decide (Ac < 0)) then some (true) else obind (d_laws_szPlan fu Aa Ac) fun Ae=>bif (decide (Ae < 0)) then some (true) else obind (d_laws_toRequest fu Ab) fun Ag=>obind (d_laws_toPlan fu Aa) fun Af=>obind (d_spec_Dropped fu Ag Af) fun Ad=>d_laws_FnExactDropped_J3 fu Ab Aa Ad.fCartons Ad.fSpots

end Go.Proofs.YtkkfmjpbiimkbaaGreat
