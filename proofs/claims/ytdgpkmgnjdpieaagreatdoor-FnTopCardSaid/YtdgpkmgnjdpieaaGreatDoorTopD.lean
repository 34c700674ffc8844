/- FnTop: what the func.. -/
import Derived.Test.YtdgpkmgnjdpieaaGreatDoorTopBD
set_option linter.unusedVariables false
namespace Go.Proofs.YtdgpkmgnjdpieaaGreatDoor
open Go
def SH fu (D:ByteArray×ByteArray) (E:Int×Int):=AA (H5 fu D.1) λJ=>AA (MB fu D.2) λA=>bif J.2==(-1) then bif A.2 then AA (SI fu J.1 A.1) λJ=>bif J then AA (MN fu A.1) λA=>some ((E.2==0)==(A.toList==D.2.toList)) else some ((E.2==0)==false) else some ((E.2==0)==false) else some false
def Sy (fu:Nat) (E:ByteArray×ByteArray) (A:ByteArray×Int) (D:Int×Int):Option Bool:=bif A.2 != 0 then bif A.1.toList==(⟨#[]⟩:ByteArray).toList then bif D.1==A.2 then some (D.2==1) else some false else some false else AA (RR fu E.1 A.1) λA=>bif A.1 != 0 then some false else bif A.2 != 0 then some false else SH fu E D
def Sj (fu:Nat) (A:ByteArray×ByteArray) (J:ByteArray×Int):Option Bool:=AA (RR fu A.1 A.2) λD=>AA (Wv fu A.1 A.2) λE=>bif D.1 != E.1 then some false else bif D.2 != E.2 then some false else Sy fu A J D
def Xl (fu:Nat) (A:List U8):Option Bool:=AA (ay fu A) λD=>bif D then some true else AA (Nx fu A) λD=>AA (X7 fu D.1) λA=>AA (WJ fu D.1) λE=>bif !(A.1.toList==E.1.toList) then some false else bif A.2 != E.2 then some false else AA (LD fu D.1) λE=>bif A.2 != E then some false else Sj fu D A
end Go.Proofs.YtdgpkmgnjdpieaaGreatDoor
