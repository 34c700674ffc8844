/- FnChecked: what the functions that it reaches compute,on plain data. Printed by gen.py. -/
import Derived.Test.YtkkfmjpbiimkbaaGreatCkdLawBD
set_option linter.unusedVariables false
namespace Go.Proofs.YtkkfmjpbiimkbaaGreat
open Go
def Qlh (fu:Nat) (Aa:Int → Option (Bool)) (Ab:Int)  : Option (Bool) :=
  Aa (w64 (Ab + 1))

def Qig (fu:Nat)  (Aa:Request × Plan) (Af:Int → Option (Bool)) (Ab:Int):Option (Bool) :=
  Qad (Qml fu Aa.2.fSpots) fun Ag=>bif (decide (Ab < Ag)) then Qad (Qhe fu Aa.1 Aa.2 Ab) fun Ad=>bif (decide (Ad > Aa.1.fPallet.fGram)) then some (false) else Qad (Qhg fu Aa.2 Ab) fun Ac=>bif (((Ac.length:Int)) == 0) then some (false) else Qlh fu Af Ab else Qad (Qse fu Aa.1 Aa.2) fun Ae=>some (((Ae.length:Int)) == 0)
def Qdx (fu:Nat)  (Aa:Request × Plan):Nat → Int → Option (Bool)
  | 0=>fun _=>none
  | n + 1=>Qig fu Aa (Qdx fu Aa n)

def Qhr (fu:Nat) (Aa:Request × Plan)  : Option (Bool) :=
  Qdx fu Aa fu 0

def Ql0 (fu:Nat) (Ab:Int → Option (Bool)) (Aa:Int)  : Option (Bool) :=
  Ab (w64 (Aa + 1))

def Qic (fu:Nat) (Ah:Int → Option (Bool)) (Aa:Request × Plan) (Ab:Int) (Ai:Int → Option (Bool)) (Ac:Int):Option (Bool) :=
  bif (decide (Ac < Ab)) then Qad (ix Aa.2.fCartons Ab) fun Ag=>Qad (ix Aa.2.fSpots Ab) fun Aj=>Qad (ix Aa.2.fCartons Ac) fun Ad=>Qad (ix Aa.2.fSpots Ac) fun Ak=>Qad (Qkc fu Aa.1 Ag) fun Al=>Qad (Qkc fu Aa.1 Ad) fun Af=>Qad (Qmg fu Al Aj Af Ak) fun Ae=>bif Ae then some (false) else Ai (w64 (Ac + 1)) else Ql0 fu Ah Ab
def Qew (fu:Nat) (Ac:Int → Option (Bool)) (Aa:Request × Plan) (Ab:Int):Nat → Int → Option (Bool)
  | 0=>fun _=>none
  | n + 1=>Qic fu Ac Aa Ab (Qew fu Ac Aa Ab n)

def Qln (fu:Nat) (Ac:Int → Option (Bool)) (Aa:Request × Plan) (Ab:Int)  : Option (Bool) :=
  Qew fu Ac Aa Ab fu 0

def Qks (fu:Nat) (Aj:Int → Option (Bool)) (Aa:Request × Plan) (Ab:Int) (Ah:Typ) (Ae:Bool):Option (Bool) :=
  bif (!Ae) then some (false) else Qad (ix Aa.2.fCartons Ab) fun Ac=>Qad (Qnx fu Aa.1 Ac.fUnits Ah) fun Ad=>bif (!Ad) then some (false) else Qad (ix Aa.2.fCartons Ab) fun Ak=>Qad (ix Aa.2.fSpots Ab) fun Af=>Qad (Qkc fu Aa.1 Ac) fun Ag=>Qad (Qoa fu Aa.1.fPallet Ag Af) fun Ai=>bif (!Ai) then some (false) else Qln fu Aj Aa Ab

def Qie (fu:Nat)  (Aa:Request × Plan) (Ae:Int → Option (Bool)) (Ab:Int):Option (Bool) :=
  bif (decide (Ab < ((Aa.2.fCartons.length:Int)))) then Qad (ix Aa.2.fCartons Ab) fun Ad=>Qad (Qfp fu Aa.1 Ad.fType) fun Ac=>Qks fu Ae Aa Ab Ac.1 Ac.2 else Qhr fu Aa
def Qb2 (fu:Nat)  (Aa:Request × Plan):Nat → Int → Option (Bool)
  | 0=>fun _=>none
  | n + 1=>Qie fu Aa (Qb2 fu Aa n)

def Qlr (fu:Nat) (Ab:Request × Plan) (Aa:Int)  : Option (Bool) :=
  bif (Aa != 0) then Qad (Qh5 fu Aa) fun Ac=>bif (!(Ac.toList == ((⟨#[]⟩:ByteArray)).toList)) then Qad (Qh5 fu Aa) fun Ad=>some (!(Ad.toList == ((⟨#[111,107]⟩:ByteArray)).toList)) else some (false) else Qb2 fu Ab fu 0

def Qpy (fu:Nat) (Ac:List U8):Option (Bool) :=
  Qad (Qub fu Ac) fun x5=>bif x5 then some (true) else Qad (Qpw fu Ac) fun Aa=>Qad (Qqc fu Aa.1 Aa.2) fun Ab=>Qad (Qr0 fu Aa.1 Aa.2) fun Ae=>bif (Ab != Ae) then some (false) else Qad (Qn4 fu Aa.1 Aa.2) fun Ad=>bif (!(Ad == (Ab == 0))) then some (false) else Qlr fu Aa Ab

end Go.Proofs.YtkkfmjpbiimkbaaGreat
