/- FnExactOurs: what the functions that it reaches compute,on plain data. Printed by gen.py. -/
import Derived.Test.YtkkfmjpbiimkbaaGreatExactCountInBD
set_option linter.unusedVariables false
namespace Go.Proofs.YtkkfmjpbiimkbaaGreat
open Go
def d_spec_Ours_L1_B (fu:Nat)  (Ab:(List Carton)) (k1:List (List Int) → Int → Option ((List (List Int)))) (Ac:List (List Int)) (Aa:Int):Option ((List (List Int))) :=
  bif (decide (Aa < ((Ab.length:Int)))) then obind (ix Ab Aa) fun Af=>obind (apnd 8 (([]:List Int)) Af.fUnits) fun Ad=>obind (apnd 24 Ac [Ad]) fun Ae=>k1 Ae (w64 (Aa + 1)) else some (Ac)
def d_spec_Ours_L1 (fu:Nat)  (Aa:(List Carton)):Nat → List (List Int) → Int → Option ((List (List Int)))
  | 0=>fun _ _=>none
  | n + 1=>d_spec_Ours_L1_B fu Aa (d_spec_Ours_L1 fu Aa n)

def d_spec_Ours (fu:Nat) (r1:Request):Option ((List (List Int))) :=
  obind (d_spec_CartonsOf fu r1) fun Aa=>d_spec_Ours_L1 fu Aa fu (([]:List (List Int))) 0

def d_impl_Ours_L1_B (fu:Nat)  (Ac:(List Carton)) (k1:List (List Int) → Int → Option ((List (List Int)))) (Ab:List (List Int)) (Aa:Int):Option ((List (List Int))) :=
  bif (decide (Aa < ((Ac.length:Int)))) then obind (ix Ac Aa) fun Ad=>obind (apnd 24 Ab [Ad.fUnits]) fun Ae=>k1 Ae (w64 (Aa + 1)) else some (Ab)
def d_impl_Ours_L1 (fu:Nat)  (Aa:(List Carton)):Nat → List (List Int) → Int → Option ((List (List Int)))
  | 0=>fun _ _=>none
  | n + 1=>d_impl_Ours_L1_B fu Aa (d_impl_Ours_L1 fu Aa n)

def d_impl_Ours (fu:Nat) (r1:Request):Option ((List (List Int))) :=
  obind (d_impl_CartonsOf fu r1) fun Aa=>d_impl_Ours_L1 fu Aa fu (([]:List (List Int))) 0

def d_laws_eqIntS_L1_B (fu:Nat)  (a1:List Int) (b5:List Int) (k1:Int → Option (Bool)) (Aa:Int):Option (Bool) :=
  bif (decide (Aa < ((a1.length:Int)))) then obind (ix a1 Aa) fun Ab=>obind (ix b5 Aa) fun Ac=>bif (Ab != Ac) then some (false) else k1 (w64 (Aa + 1)) else some (true)
def d_laws_eqIntS_L1 (fu:Nat)  (a1:List Int) (b5:List Int):Nat → Int → Option (Bool)
  | 0=>fun _=>none
  | n + 1=>d_laws_eqIntS_L1_B fu a1 b5 (d_laws_eqIntS_L1 fu a1 b5 n)

def d_laws_eqIntS (fu:Nat) (a1:List Int) (b5:List Int):Option (Bool) :=
  bif (((a1.length:Int)) != ((b5.length:Int))) then some (false) else d_laws_eqIntS_L1 fu a1 b5 fu 0

def d_laws_eqIntSS_L1_B (fu:Nat)  (a1:List (List Int)) (b5:List (List Int)) (k1:Int → Option (Bool)) (Aa:Int):Option (Bool) :=
  bif (decide (Aa < ((a1.length:Int)))) then obind (ix a1 Aa) fun Ad=>obind (ix b5 Aa) fun Ac=>obind (d_laws_eqIntS fu Ad Ac) fun Ab=>bif (!Ab) then some (false) else k1 (w64 (Aa + 1)) else some (true)
def d_laws_eqIntSS_L1 (fu:Nat)  (a1:List (List Int)) (b5:List (List Int)):Nat → Int → Option (Bool)
  | 0=>fun _=>none
  | n + 1=>d_laws_eqIntSS_L1_B fu a1 b5 (d_laws_eqIntSS_L1 fu a1 b5 n)

def d_laws_eqIntSS (fu:Nat) (a1:List (List Int)) (b5:List (List Int)):Option (Bool) :=
  bif (((a1.length:Int)) != ((b5.length:Int))) then some (false) else d_laws_eqIntSS_L1 fu a1 b5 fu 0

def d_laws_markPairS_L1_B (fu:Nat)   (k1:List Pair → Int → Int → Option (Int × (List Pair))) (Ac:List Pair) (Ab:Int) (Aa:Int):Option (Int × (List Pair)) :=
  bif (decide (Aa < ((Ac.length:Int)))) then obind (ix Ac Aa) fun Ad=>obind (ix (setx Ac Aa ({ Ad with fA:=Ab })) Aa) fun Ae=>k1 (setx (setx Ac Aa ({ Ad with fA:=Ab })) Aa ({ Ae with fB:=w64 (Ab + 1) })) (w64 ((w64 (Ab + 1)) + 1)) (w64 (Aa + 1)) else some (Ab,Ac)
def d_laws_markPairS_L1 (fu:Nat)   : Nat → List Pair → Int → Int → Option (Int × (List Pair))
  | 0=>fun _ _ _=>none
  | n + 1=>d_laws_markPairS_L1_B fu  (d_laws_markPairS_L1 fu  n)

def d_laws_markPairS (fu:Nat) (a1:List Pair) (Aa:Int):Option (Int × (List Pair)) :=
  d_laws_markPairS_L1 fu fu a1 Aa 0

def d_laws_markTypeS_L1_B (fu:Nat)   (k1:List Typ → Int → Int → Option (Int × (List Typ))) (Ac:List Typ) (Ab:Int) (Aa:Int):Option (Int × (List Typ)) :=
  bif (decide (Aa < ((Ac.length:Int)))) then obind (ix Ac Aa) fun Ad=>obind (ix (setx Ac Aa ({ Ad with fId:=Ab })) Aa) fun Ae=>obind (ix (setx (setx Ac Aa ({ Ad with fId:=Ab })) Aa ({ Ae with fW:=w64 (Ab + 1) })) Aa) fun Af=>obind (ix (setx (setx (setx Ac Aa ({ Ad with fId:=Ab })) Aa ({ Ae with fW:=w64 (Ab + 1) })) Aa ({ Af with fH:=w64 ((w64 (Ab + 1)) + 1) })) Aa) fun Ag=>obind (ix (setx (setx (setx (setx Ac Aa ({ Ad with fId:=Ab })) Aa ({ Ae with fW:=w64 (Ab + 1) })) Aa ({ Af with fH:=w64 ((w64 (Ab + 1)) + 1) })) Aa ({ Ag with fD:=w64 ((w64 ((w64 (Ab + 1)) + 1)) + 1) })) Aa) fun Ah=>obind (ix (setx (setx (setx (setx (setx Ac Aa ({ Ad with fId:=Ab })) Aa ({ Ae with fW:=w64 (Ab + 1) })) Aa ({ Af with fH:=w64 ((w64 (Ab + 1)) + 1) })) Aa ({ Ag with fD:=w64 ((w64 ((w64 (Ab + 1)) + 1)) + 1) })) Aa ({ Ah with fTare:=w64 ((w64 ((w64 ((w64 (Ab + 1)) + 1)) + 1)) + 1) })) Aa) fun Ai=>obind (ix (setx (setx (setx (setx (setx (setx Ac Aa ({ Ad with fId:=Ab })) Aa ({ Ae with fW:=w64 (Ab + 1) })) Aa ({ Af with fH:=w64 ((w64 (Ab + 1)) + 1) })) Aa ({ Ag with fD:=w64 ((w64 ((w64 (Ab + 1)) + 1)) + 1) })) Aa ({ Ah with fTare:=w64 ((w64 ((w64 ((w64 (Ab + 1)) + 1)) + 1)) + 1) })) Aa ({ Ai with fGram:=w64 ((w64 ((w64 ((w64 ((w64 (Ab + 1)) + 1)) + 1)) + 1)) + 1) })) Aa) fun Aj=>k1 (setx (setx (setx (setx (setx (setx (setx Ac Aa ({ Ad with fId:=Ab })) Aa ({ Ae with fW:=w64 (Ab + 1) })) Aa ({ Af with fH:=w64 ((w64 (Ab + 1)) + 1) })) Aa ({ Ag with fD:=w64 ((w64 ((w64 (Ab + 1)) + 1)) + 1) })) Aa ({ Ah with fTare:=w64 ((w64 ((w64 ((w64 (Ab + 1)) + 1)) + 1)) + 1) })) Aa ({ Ai with fGram:=w64 ((w64 ((w64 ((w64 ((w64 (Ab + 1)) + 1)) + 1)) + 1)) + 1) })) Aa ({ Aj with fCost:=w64 ((w64 ((w64 ((w64 ((w64 ((w64 (Ab + 1)) + 1)) + 1)) + 1)) + 1)) + 1) })) (w64 ((w64 ((w64 ((w64 ((w64 ((w64 ((w64 (Ab + 1)) + 1)) + 1)) + 1)) + 1)) + 1)) + 1)) (w64 (Aa + 1)) else some (Ab,Ac)
def d_laws_markTypeS_L1 (fu:Nat)   : Nat → List Typ → Int → Int → Option (Int × (List Typ))
  | 0=>fun _ _ _=>none
  | n + 1=>d_laws_markTypeS_L1_B fu  (d_laws_markTypeS_L1 fu  n)

def d_laws_markTypeS (fu:Nat) (a1:List Typ) (Aa:Int):Option (Int × (List Typ)) :=
  d_laws_markTypeS_L1 fu fu a1 Aa 0

def d_laws_markItemS_L1_B (fu:Nat)   (k1:List Item → Int → Int → Option (Int × (List Item))) (Ac:List Item) (Ab:Int) (Aa:Int):Option (Int × (List Item)) :=
  bif (decide (Aa < ((Ac.length:Int)))) then obind (ix Ac Aa) fun Ad=>obind (ix (setx Ac Aa ({ Ad with fId:=Ab })) Aa) fun Ae=>obind (ix (setx (setx Ac Aa ({ Ad with fId:=Ab })) Aa ({ Ae with fW:=w64 (Ab + 1) })) Aa) fun Af=>obind (ix (setx (setx (setx Ac Aa ({ Ad with fId:=Ab })) Aa ({ Ae with fW:=w64 (Ab + 1) })) Aa ({ Af with fH:=w64 ((w64 (Ab + 1)) + 1) })) Aa) fun Ag=>obind (ix (setx (setx (setx (setx Ac Aa ({ Ad with fId:=Ab })) Aa ({ Ae with fW:=w64 (Ab + 1) })) Aa ({ Af with fH:=w64 ((w64 (Ab + 1)) + 1) })) Aa ({ Ag with fD:=w64 ((w64 ((w64 (Ab + 1)) + 1)) + 1) })) Aa) fun Ah=>obind (ix (setx (setx (setx (setx (setx Ac Aa ({ Ad with fId:=Ab })) Aa ({ Ae with fW:=w64 (Ab + 1) })) Aa ({ Af with fH:=w64 ((w64 (Ab + 1)) + 1) })) Aa ({ Ag with fD:=w64 ((w64 ((w64 (Ab + 1)) + 1)) + 1) })) Aa ({ Ah with fGram:=w64 ((w64 ((w64 ((w64 (Ab + 1)) + 1)) + 1)) + 1) })) Aa) fun Ai=>obind (ix (setx (setx (setx (setx (setx (setx Ac Aa ({ Ad with fId:=Ab })) Aa ({ Ae with fW:=w64 (Ab + 1) })) Aa ({ Af with fH:=w64 ((w64 (Ab + 1)) + 1) })) Aa ({ Ag with fD:=w64 ((w64 ((w64 (Ab + 1)) + 1)) + 1) })) Aa ({ Ah with fGram:=w64 ((w64 ((w64 ((w64 (Ab + 1)) + 1)) + 1)) + 1) })) Aa ({ Ai with fClass:=w64 ((w64 ((w64 ((w64 ((w64 (Ab + 1)) + 1)) + 1)) + 1)) + 1) })) Aa) fun Aj=>k1 (setx (setx (setx (setx (setx (setx (setx Ac Aa ({ Ad with fId:=Ab })) Aa ({ Ae with fW:=w64 (Ab + 1) })) Aa ({ Af with fH:=w64 ((w64 (Ab + 1)) + 1) })) Aa ({ Ag with fD:=w64 ((w64 ((w64 (Ab + 1)) + 1)) + 1) })) Aa ({ Ah with fGram:=w64 ((w64 ((w64 ((w64 (Ab + 1)) + 1)) + 1)) + 1) })) Aa ({ Ai with fClass:=w64 ((w64 ((w64 ((w64 ((w64 (Ab + 1)) + 1)) + 1)) + 1)) + 1) })) Aa ({ Aj with fCount:=w64 ((w64 ((w64 ((w64 ((w64 ((w64 (Ab + 1)) + 1)) + 1)) + 1)) + 1)) + 1) })) (w64 ((w64 ((w64 ((w64 ((w64 ((w64 ((w64 (Ab + 1)) + 1)) + 1)) + 1)) + 1)) + 1)) + 1)) (w64 (Aa + 1)) else some (Ab,Ac)
def d_laws_markItemS_L1 (fu:Nat)   : Nat → List Item → Int → Int → Option (Int × (List Item))
  | 0=>fun _ _ _=>none
  | n + 1=>d_laws_markItemS_L1_B fu  (d_laws_markItemS_L1 fu  n)

def d_laws_markItemS (fu:Nat) (a1:List Item) (Aa:Int):Option (Int × (List Item)) :=
  d_laws_markItemS_L1 fu fu a1 Aa 0

def d_laws_markRequest (fu:Nat) (a1:Request) (Ad:Int):Option (Int × Request) :=
  obind (d_laws_markPairS fu a1.fPairs Ad) fun Aa=>obind (d_laws_markTypeS fu a1.fTypes Aa.1) fun Ab=>obind (d_laws_markItemS fu a1.fItems Ab.1) fun Ac=>some (Ac.1,(⟨a1.fWay,a1.fPallet,a1.fClasses,Aa.2,Ab.2,a1.fMaster,Ac.2⟩:Request))

def d_laws_markIntS_L1_B (fu:Nat)   (k1:List Int → Int → Int → Option (Int × (List Int))) (Aa:List Int) (Ac:Int) (Ab:Int):Option (Int × (List Int)) :=
  bif (decide (Ab < ((Aa.length:Int)))) then obind (ix Aa Ab) fun Ad=>k1 (setx Aa Ab Ac) (w64 (Ac + 1)) (w64 (Ab + 1)) else some (Ac,Aa)
def d_laws_markIntS_L1 (fu:Nat)   : Nat → List Int → Int → Int → Option (Int × (List Int))
  | 0=>fun _ _ _=>none
  | n + 1=>d_laws_markIntS_L1_B fu  (d_laws_markIntS_L1 fu  n)

def d_laws_markIntS (fu:Nat) (a1:List Int) (Aa:Int):Option (Int × (List Int)) :=
  d_laws_markIntS_L1 fu fu a1 Aa 0

def d_laws_markIntSS_L1_B (fu:Nat)   (k1:List (List Int) → Int → Int → Option (Int × (List (List Int)))) (Aa:List (List Int)) (Ac:Int) (Ab:Int):Option (Int × (List (List Int))) :=
  bif (decide (Ab < ((Aa.length:Int)))) then obind (ix Aa Ab) fun Ae=>obind (d_laws_markIntS fu Ae Ac) fun Ad=>k1 (setx Aa Ab Ad.2) Ad.1 (w64 (Ab + 1)) else some (Ac,Aa)
def d_laws_markIntSS_L1 (fu:Nat)   : Nat → List (List Int) → Int → Int → Option (Int × (List (List Int)))
  | 0=>fun _ _ _=>none
  | n + 1=>d_laws_markIntSS_L1_B fu  (d_laws_markIntSS_L1 fu  n)

def d_laws_markIntSS (fu:Nat) (a1:List (List Int)) (Aa:Int):Option (Int × (List (List Int))) :=
  d_laws_markIntSS_L1 fu fu a1 Aa 0

def d_laws_heldIntS_L1_B (fu:Nat)  (a1:List Int) (k1:Int → Int → Option (Int)) (Ab:Int) (Aa:Int):Option (Int) :=
  bif (decide (Aa < ((a1.length:Int)))) then obind (ix a1 Aa) fun Ac=>bif (Ac != Ab) then some ((-1)) else k1 (w64 (Ab + 1)) (w64 (Aa + 1)) else some (Ab)
def d_laws_heldIntS_L1 (fu:Nat)  (a1:List Int):Nat → Int → Int → Option (Int)
  | 0=>fun _ _=>none
  | n + 1=>d_laws_heldIntS_L1_B fu a1 (d_laws_heldIntS_L1 fu a1 n)

def d_laws_heldIntS (fu:Nat) (a1:List Int) (Aa:Int):Option (Int) :=
  d_laws_heldIntS_L1 fu a1 fu Aa 0

def d_laws_heldIntSS_L1_B (fu:Nat)  (a1:List (List Int)) (k1:Int → Int → Option (Int)) (Ac:Int) (Aa:Int):Option (Int) :=
  bif (decide (Aa < ((a1.length:Int)))) then obind (ix a1 Aa) fun Ad=>obind (d_laws_heldIntS fu Ad Ac) fun Ab=>bif (decide (Ab < 0)) then some ((-1)) else k1 Ab (w64 (Aa + 1)) else some (Ac)
def d_laws_heldIntSS_L1 (fu:Nat)  (a1:List (List Int)):Nat → Int → Int → Option (Int)
  | 0=>fun _ _=>none
  | n + 1=>d_laws_heldIntSS_L1_B fu a1 (d_laws_heldIntSS_L1 fu a1 n)

def d_laws_heldIntSS (fu:Nat) (a1:List (List Int)) (Aa:Int):Option (Int) :=
  d_laws_heldIntSS_L1 fu a1 fu Aa 0

def d_laws_FnExactOurs_J1 (fu:Nat) (Af:Request) (Ae:(List (List Int))) (Ai:(List (List Int)))  : Option (Bool) :=
  obind (d_laws_markIntSS fu Ai 1) fun Aa=>obind (d_laws_heldIntSS fu Aa.2 1) fun Ac=>bif (decide (Ac < 0)) then some (false) else bif (Ac != Aa.1) then some (false) else obind (d_laws_toRequest fu Af) fun Ag=>obind (d_impl_Ours fu Ag) fun Ad=>obind (d_laws_eqIntSS fu Ad Ae) fun Ah=>bif (!Ah) then some (false) else obind (d_laws_heldIntSS fu Aa.2 1) fun Ab=>bif (decide (Ab < 0)) then some (false) else bif (Ab != Aa.1) then some (false) else some (true)

def d_laws_FnExactOurs (fu:Nat) (Aa:Request):Option (Bool) :=
  obind (d_laws_szRequest fu Aa 1048576) fun Aj=>bif (decide (Aj < 0)) then some (true) else obind (d_laws_toRequest fu Aa) fun Ag=>obind (d_spec_Ours fu Ag) fun Ab=>obind (d_laws_toRequest fu Aa) fun Ac=>obind (d_impl_Ours fu Ac) fun Ad=>obind (d_laws_eqIntSS fu Ad Ab) fun Ak=>bif (!Ak) then some (false) else obind (d_laws_toRequest fu Aa) fun Ai=>obind (d_laws_eqRequest fu Ac Ai) fun Ah=>bif (!Ah) then some (false) else obind (d_laws_markRequest fu Ac 1) fun Af=>bif (decide (Af.1 < 0)) then some (false) else obind (d_laws_eqIntSS fu Ad Ab) fun Ae=>bif (!Ae) then some (false) else d_laws_FnExactOurs_J1 fu Aa Ab Ad

end Go.Proofs.YtkkfmjpbiimkbaaGreat
