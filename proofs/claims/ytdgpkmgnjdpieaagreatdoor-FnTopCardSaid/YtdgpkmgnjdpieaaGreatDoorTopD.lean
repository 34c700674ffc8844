/- FnTop: what the func.. -/
import Derived.Test.YtdgpkmgnjdpieaaGreatDoorTopBD
set_option linter.unusedVariables false
namespace Go.Proofs.YtdgpkmgnjdpieaaGreatDoor
open Go
def Sz fu (D:ByteArray×ByteArray) (E:Int×Int):=AA (IA fu D.1) λJ=>AA (MB fu D.2) λA=>bif J.2==(-1) then bif A.2 then AA (R6 fu J.1 A.1) λJ=>bif J then AA (MC fu A.1) λA=>some ((E.2==0)==(A.toList==D.2.toList)) else some ((E.2==0)==false) else some ((E.2==0)==false) else some false
def Sj (fu:Nat) (E:ByteArray×ByteArray) (A:ByteArray×Int) (D:Int×Int):Option Bool:=bif A.2 != 0 then bif A.1.toList==(⟨#[]⟩:ByteArray).toList then bif D.1==A.2 then some (D.2==1) else some false else some false else AA (RI fu E.1 A.1) λA=>bif A.1 != 0 then some false else bif A.2 != 0 then some false else Sz fu E D
def Sv (fu:Nat) (A:ByteArray×ByteArray) (J:ByteArray×Int):Option Bool:=AA (RI fu A.1 A.2) λD=>AA (Wd fu A.1 A.2) λE=>bif D.1 != E.1 then some false else bif D.2 != E.2 then some false else Sj fu A J D
def Xf (fu:Nat) (A:List U8):Option Bool:=AA (aC fu A) λD=>bif D then some true else AA (NA fu A) λA=>AA (XU fu A.1) λD=>AA (Ww fu A.1) λE=>bif !(D.1.toList==E.1.toList) then some false else bif D.2 != E.2 then some false else AA (LJ fu A.1) λE=>bif D.2 != E then some false else Sv fu A D
end Go.Proofs.YtdgpkmgnjdpieaaGreatDoor
