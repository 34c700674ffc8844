/- FnTampered: what the.. -/
import Derived.Test.YtpcmapfabndggaaGreatTamperedBD
set_option linter.unusedVariables false
namespace Go.Proofs.YtpcmapfabndggaaGreat
open Go
def Qex (fu:Nat)  (Aa:Bool):Option (Bool) :=
  some (Aa)
def Qj4 (fu:Nat) (Aa:Request) (Ab:Plan×Bool) (Af:Int) (Ad:Plan×Bool) (Ae:Carton) (Ak:List Int) (Ah:List Carton) (Ai:List Spot) (Ac:Plan×Bool) (Aj:Spot)  : Option (Bool) :=
  Qac (Qhj fu Aa ((⟨Qe5 Ad.1.fV (Int.tmod Af (Ab.1.fV.length:Int)) (⟨Ae.qJ,Ae.fF,Ak⟩:Carton),Ad.1.fT⟩:Plan))) λAl=>bif (!Al) then Qac (Qhj fu Aa (⟨Ah,Ai⟩:Plan)) λAg=>bif (!Ag) then Qac (Qqt fu Aa (⟨Ac.1.fV,Qe5 Ac.1.fT (Int.tmod Af (Ab.1.fV.length:Int)) ({ Aj with fX:=Aa.fJ.fW })⟩:Plan)) λAm=>bif (Am==7) then Qac (Qhj fu Aa Ab.1) λAo=>Qex fu Ao else Qex fu false else Qex fu false else Qex fu false
def Qgj (fu:Nat) (Ab:Request) (Ah:Plan×Bool) (Ak:Int) (Ac:Plan×Bool) (Ae:Carton) (Ag:List Int) (Ai:List Carton) (Ad:List Spot) (Aa:Plan×Bool) (Af:Spot) (Aj:Bool):Option (Bool) :=
  bif Aj then some (false) else Qj4 fu Ab Ah Ak Ac Ae Ag Ai Ad Aa Af
def Qjp (fu:Nat) (Ad:Request) (Aa:Plan×Bool) (Ac:Int) (Af:Plan×Bool) (Aj:Carton) (Ak:List Int) (Ag:List Carton) (Ah:List Spot):Option (Bool) :=
  Qac (Qh1 fu Ad) λAe=>Qac (ix Ae.1.fT (Int.tmod Ac (Aa.1.fV.length:Int))) λAi=>Qac (Qh1 fu Ad) λAb=>Qac (Jdz (Ab.1.fT.length:Int)) λAo=>Qac (ix Ab.1.fT (Int.tmod (w64 ((Int.tmod Ac (Aa.1.fV.length:Int))+1)) (Ab.1.fT.length:Int))) λAl=>Qac (ix Ab.1.fT (Int.tmod Ac (Aa.1.fV.length:Int))) λAp=>bif (decide ((((Qe5 Ab.1.fT (Int.tmod Ac (Aa.1.fV.length:Int)) Al).length:Int))>1)) then Qac (Qhj fu Ad (⟨Ab.1.fV,Qe5 Ab.1.fT (Int.tmod Ac (Aa.1.fV.length:Int)) Al⟩:Plan)) λAm=>Qgj fu Ad Aa Ac Af Aj Ak Ag Ah Ae Ai Am else Qgj fu Ad Aa Ac Af Aj Ak Ag Ah Ae Ai false
def Qj3 (fu:Nat) (Ab:Request) (Ag:Plan×Bool) (Aj:Int) (Ac:Plan×Bool) (Ae:Carton) (Af:List Int) (Aa:Plan×Bool) (Ah:List Carton):Option (Bool) :=
  Qac (Qh6 fu Aa.1.fT) λAi=>Qac (Qgz 32 Aa.1.fT (([(⟨Ai,0,0,0⟩:Spot)]:List Spot))) λAd=>Qjp fu Ab Ag Aj Ac Ae Af Ah Ad
def Qj0 (fu:Nat) (Ag:List U8) (Ac:Request) (Aa:Plan×Bool)  : Option (Bool) :=
  Qac (Qtq fu Ag 2) λAb=>Qac (Jdz (Aa.1.fV.length:Int)) λAl=>Qac (Qh1 fu Ac) λAd=>Qac (ix Ad.1.fV (Int.tmod Ab (Aa.1.fV.length:Int))) λAe=>Qac (sls Ae.f0 1 (Ae.f0.length:Int)) λAj=>Qac (ix Ad.1.fV (Int.tmod Ab (Aa.1.fV.length:Int))) λAk=>Qac (Qh1 fu Ac) λAf=>Qac (ix Af.1.fV (Int.tmod Ab (Aa.1.fV.length:Int))) λAh=>Qac (Qgz 40 Af.1.fV [Ah]) λAi=>Qj3 fu Ac Aa Ab Ad Ae Aj Af Ai
def Qhw (fu:Nat) (Ab:List U8) (Ad:Request) (Aa:Plan×Bool) (Ac:Bool):Option (Bool) :=
  bif Ac then some ((Aa.1.fV.length:Int)==0) else Qj0 fu Ab Ad Aa
def Qo0 (fu:Nat) (Ab:List U8):Option (Bool) :=
  Qac (Qva fu Ab) λAd=>bif Ad then some (true) else Qac (Qov fu Ab) λAc=>Qac (Qh1 fu Ac) λAa=>Qac (Qrl fu Ac) λAe=>bif (!(Aa.2==Ae.2)) then some (false) else bif (!Aa.2) then Qhw fu Ab Ac Aa true else Qhw fu Ab Ac Aa ((Aa.1.fV.length:Int)==0)
end Go.Proofs.YtpcmapfabndggaaGreat
