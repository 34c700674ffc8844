/- FnTop: what the func.. -/
import Derived.Test.YtdgpkmgnjdpieaaGreatDoorS12
import Derived.Test.YtdgpkmgnjdpieaaGreatDoorS15
set_option linter.unusedVariables false
namespace Go.Proofs.YtdgpkmgnjdpieaaGreatDoor
open Go
def aC (fu:Nat) (A:List U8):Option Bool:=some ((A.length:Int)>1048576)
def WY (fu:Nat) (J:Int→Int→Option Cur) (D:List U8) (E A:Int):Option Cur:=AA (ix D A) λD=>J (IntKind.wrap .i64 (((BitVec.ofInt (IntKind.bits .i64) (AK (AK (AK (E*131)+AK D.n)+7)) &&& BitVec.ofInt (IntKind.bits .i64) 1073741823).toNat:Nat):Int)) (AK (A+1))
def Vb fu A J D E:=bif E<A.length then bif E<4000 then WY fu J A D E else some ⟨A,0,D⟩ else some ⟨A,0,D⟩
def JJ (fu:Nat) (A:List U8):Nat→Int→Int→Option Cur|0=>λ_ _=>none|n+1=>Vb fu A (JJ fu A n)
def LT fu A:=JJ fu A fu (AK (26583+A.length)) 0
def JZ (fu:Nat) (A:Cur):Option (Int×Cur):=bif A.fi<A.fb.length then AA (ix A.fb A.fi) λD=>some (IntKind.wrap .i64 (((BitVec.ofInt (IntKind.bits .i64) (AK (IntKind.wrap .i64 (((BitVec.ofInt (IntKind.bits .i64) (IntKind.wrap .i64 (((BitVec.ofInt (IntKind.bits .i64) (Int.fdiv (AK (AK (A.fh*6364136223846793005)+1442695040888963407)) (2 ^ min 33 (IntKind.bits .i64))) ^^^ BitVec.ofInt (IntKind.bits .i64) (Int.fdiv (AK (AK (A.fh*6364136223846793005)+1442695040888963407)) (2 ^ min 45 (IntKind.bits .i64)))).toNat:Nat):Int)) &&& BitVec.ofInt (IntKind.bits .i64) 255).toNat:Nat):Int)+AK D.n)) &&& BitVec.ofInt (IntKind.bits .i64) 255).toNat:Nat):Int),⟨A.fb,AK (A.fi+1),AK (AK (A.fh*6364136223846793005)+1442695040888963407)⟩) else some (IntKind.wrap .i64 (((BitVec.ofInt (IntKind.bits .i64) (IntKind.wrap .i64 (((BitVec.ofInt (IntKind.bits .i64) (Int.fdiv (AK (AK (A.fh*6364136223846793005)+1442695040888963407)) (2 ^ min 33 (IntKind.bits .i64))) ^^^ BitVec.ofInt (IntKind.bits .i64) (Int.fdiv (AK (AK (A.fh*6364136223846793005)+1442695040888963407)) (2 ^ min 45 (IntKind.bits .i64)))).toNat:Nat):Int)) &&& BitVec.ofInt (IntKind.bits .i64) 255).toNat:Nat):Int),⟨A.fb,A.fi,AK (AK (A.fh*6364136223846793005)+1442695040888963407)⟩)
def AY fu A D:=bif D≤0 then some (0,A) else bif D≤256 then AA (JZ fu A) λE=>AA (pU D) λ_=>some (Int.tmod E.1 D,⟨A.fb,E.2.fi,E.2.fh⟩) else AA (JZ fu A) λM=>AA (JZ fu ⟨A.fb,M.2.fi,M.2.fh⟩) λJ=>AA (JZ fu ⟨A.fb,J.2.fi,J.2.fh⟩) λL=>AA (JZ fu ⟨A.fb,L.2.fi,L.2.fh⟩) λE=>AA (pU D) λ_=>some (Int.tmod (AK (AK (AK (AK (M.1*16777216)+AK (J.1*65536))+AK (L.1*256))+E.1)) D,⟨A.fb,E.2.fi,E.2.fh⟩)
def J0 (fu:Nat) (D:Cur) (A:Int):Option (Bool×Cur):=AA (AY fu D A) λA=>some (A.1==0,⟨D.fb,A.2.fi,A.2.fh⟩)
def B9 (fu:Nat) (E:Cur) (D:List Int):Option (Int×Cur):=AA (AY fu E D.length) λA=>AA (ix D A.1) λD=>some (D,⟨E.fb,A.2.fi,A.2.fh⟩)
def KR (fu:Nat) (L:Int→Int→List Pair→Int→Option (Request×Cur)) (A E D:Int) (J:List Pair):Option (Request×Cur):=L E D J (AK (A+1))
def Q4 fu (O:Int→Int→List Pair→Int→Option (Request×Cur)) (E:Cur) D N M L J A:=bif A≤D then bif D==A then AA (BE 16 J [⟨D,D⟩]) λQ=>KR fu N A M L Q else AA (J0 fu ⟨E.fb,M,L⟩ 2) λE=>bif E.1 then AA (BE 16 J [⟨D,A⟩,⟨A,D⟩]) λQ=>KR fu N A E.2.fi E.2.fh Q else KR fu N A E.2.fi E.2.fh J else O M L J (AK (D+1))
def GZ (fu:Nat) (A:Int→Int→List Pair→Int→Option (Request×Cur)) (E:Cur) (D:Int):Nat→Int→Int→List Pair→Int→Option (Request×Cur)|0=>λ_ _ _ _=>none|n+1=>Q4 fu A E D (GZ fu A E D n)
def NJ (fu:Nat) (D:Int→Int→List Item→Int→Int→Option (Request×Cur)) (A L J:Int) (M:List Item) (E:Int):Option (Request×Cur):=D L J M E (AK (A+1))
def KV fu J N D E L M A:=bif AK (D+A.f9)≤12 then AA (BE 56 N [A]) λO=>NJ fu J E L M O (AK (D+A.f9)) else NJ fu J E L M N D
def UL fu L (E:Cur) N J M O A D:=AA (J0 fu ⟨E.fb,O,A⟩ 3) λA=>bif A.1 then AA (AY fu ⟨E.fb,A.2.fi,A.2.fh⟩ 8) λE=>KV fu L N J M E.2.fi E.2.fh ⟨D.fe,5,5,AK (4+E.1),D.fQ,D.fO,D.f9⟩ else KV fu L N J M A.2.fi A.2.fh D
def Q0 fu A (As Aq At Ar Ao U:Int×Cur) Y h (D:Int×Cur) Z T V Q e O:=bif O<D.1 then AA (AY fu ⟨A.fb,T,V⟩ 10) λJ=>AA (AY fu ⟨A.fb,J.2.fi,J.2.fh⟩ 10) λD=>AA (AY fu ⟨A.fb,D.2.fi,D.2.fh⟩ 10) λL=>AA (AY fu ⟨A.fb,L.2.fi,L.2.fh⟩ 60) λE=>AA (AY fu ⟨A.fb,E.2.fi,E.2.fh⟩ (AK (1+U.1))) λM=>AA (AY fu ⟨A.fb,M.2.fi,M.2.fh⟩ 4) λN=>UL fu Z A Q e O N.2.fi N.2.fh ⟨AK (3*O),AK (1+J.1),AK (1+D.1),AK (1+L.1),AK (1+E.1),M.1,AK (1+N.1)⟩ else some (⟨As.1,⟨Aq.1,At.1,Ar.1,Ao.1⟩,AK (1+U.1),Y,h,7,Q⟩,⟨A.fb,T,V⟩)
def DX (fu:Nat) (J:Cur) (T L E N M Q:Int×Cur) (O:List Pair) (A:List Typ) (D:Int×Cur):Nat→Int→Int→List Item→Int→Int→Option (Request×Cur)|0=>λ_ _ _ _ _=>none|n+1=>Q0 fu J T L E N M Q O A D (DX fu J T L E N M Q O A D n)
def Rc fu A e Ar Z As Y Ao h (E:Int×Cur) (V:Int→Int→List Typ→Int→Option (Request×Cur)) U T Q D:=bif D<E.1 then AA (AY fu ⟨A.fb,U,T⟩ 9) λE=>AA (AY fu ⟨A.fb,E.2.fi,E.2.fh⟩ 8) λM=>AA (AY fu ⟨A.fb,M.2.fi,M.2.fh⟩ 9) λL=>AA (AY fu ⟨A.fb,L.2.fi,L.2.fh⟩ 5) λN=>AA (AY fu ⟨A.fb,N.2.fi,N.2.fh⟩ 90) λJ=>AA (AY fu ⟨A.fb,J.2.fi,J.2.fh⟩ 20) λO=>AA (BE 56 Q [⟨AK (10+D),AK (4+E.1),AK (3+M.1),AK (3+L.1),N.1,AK (20+J.1),AK (1+O.1)⟩]) λE=>V O.2.fi O.2.fh E (AK (D+1)) else AA (AY fu ⟨A.fb,U,T⟩ 6) λD=>DX fu A e Ar Z As Y Ao h Q D fu D.2.fi D.2.fh [] 0 0
def I9 (fu:Nat) (J:Cur) (O D A L N M:Int×Cur) (Q:List Pair) (E:Int×Cur):Nat→Int→Int→List Typ→Int→Option (Request×Cur)|0=>λ_ _ _ _=>none|n+1=>Rc fu J O D A L N M Q E (I9 fu J O D A L N M Q E n)
def UZ fu D U N E Q T O M L A J:=AA (AY fu ⟨D.fb,L,A⟩ 5) λA=>I9 fu D U N E Q T O M A fu A.2.fi A.2.fh J 0
def Qe fu A T O V Q U L N J E M D:=bif D<AK (1+L.1) then GZ fu N A D fu J E M 0 else AA (AY fu ⟨A.fb,J,E⟩ 8) λJ=>AA (B9 fu ⟨A.fb,J.2.fi,J.2.fh⟩ [60,100,140]) λE=>AA (B9 fu ⟨A.fb,E.2.fi,E.2.fh⟩ [9,20]) λD=>AA (BE 56 [] [⟨7,12,10,11,J.1,E.1,D.1⟩]) λE=>UZ fu A T O V Q U L M D.2.fi D.2.fh E
def EL (fu:Nat) (J:Cur) (M A E D L N:Int×Cur):Nat→Int→Int→List Pair→Int→Option (Request×Cur)|0=>λ_ _ _ _=>none|n+1=>Qe fu J M A E D L N (EL fu J M A E D L N n)
def O4 fu A:=AA (AY fu A 2) λM=>AA (B9 fu ⟨A.fb,M.2.fi,M.2.fh⟩ [20,30,37]) λD=>AA (B9 fu ⟨A.fb,D.2.fi,D.2.fh⟩ [20,25,40]) λJ=>AA (B9 fu ⟨A.fb,J.2.fi,J.2.fh⟩ [15,24,50]) λE=>AA (B9 fu ⟨A.fb,E.2.fi,E.2.fh⟩ [150,400,5000]) λL=>AA (AY fu ⟨A.fb,L.2.fi,L.2.fh⟩ 4) λN=>EL fu A M D J E L N fu N.2.fi N.2.fh [] 0
def BR (fu:Nat) (J:Cur) (A:Request×Cur) (N M L O:Int) (Q:List Pair) (D:List Typ) (U:Int) (E:List Item) (V T:Int):Option (Request×Cur):=some (⟨N,⟨M,A.1.fJ.fD,A.1.fJ.fH,L⟩,O,Q,D,U,E⟩,⟨J.fb,V,T⟩)
def RU (fu:Nat) (E:Cur):Option (Request×Cur):=AA (O4 fu E) λA=>AA (B9 fu (⟨E.fb,A.2.fi,A.2.fh⟩:Cur) ([-1,0,2001,100001,1000,9223372036854775807]:List Int)) λJ=>AA (AY fu (⟨E.fb,J.2.fi,J.2.fh⟩:Cur) 20) λD=>bif D.1==0 then AA (B9 fu (⟨E.fb,D.2.fi,D.2.fh⟩:Cur) ([-1,2]:List Int)) λL=>BR fu E A L.1 A.1.fJ.fW A.1.fJ.fQ A.1.fR A.1.fT A.1.fG A.1.fP A.1.fU L.2.fi L.2.fh else bif D.1==1 then BR fu E A A.1.fc J.1 A.1.fJ.fQ A.1.fR A.1.fT A.1.fG A.1.fP A.1.fU D.2.fi D.2.fh else bif D.1==2 then BR fu E A A.1.fc A.1.fJ.fW J.1 A.1.fR A.1.fT A.1.fG A.1.fP A.1.fU D.2.fi D.2.fh else bif D.1==3 then AA (B9 fu (⟨E.fb,D.2.fi,D.2.fh⟩:Cur) ([0,5,1]:List Int)) λL=>BR fu E A A.1.fc A.1.fJ.fW A.1.fJ.fQ L.1 A.1.fT A.1.fG A.1.fP A.1.fU L.2.fi L.2.fh else bif D.1==4 then AA (AY fu (⟨E.fb,D.2.fi,D.2.fh⟩:Cur) 6) λL=>AA (AY fu (⟨E.fb,L.2.fi,L.2.fh⟩:Cur) 4) λM=>AA (BE 16 A.1.fT ([(⟨AK (L.1 - 1),M.1⟩:Pair)]:List Pair)) λL=>BR fu E A A.1.fc A.1.fJ.fW A.1.fJ.fQ A.1.fR L A.1.fG A.1.fP A.1.fU M.2.fi M.2.fh else bif D.1==5 then AA (ix A.1.fG 0) λL=>BR fu E A A.1.fc A.1.fJ.fW A.1.fJ.fQ A.1.fR A.1.fT (DB A.1.fG 0 ({ L with fH:=J.1 })) A.1.fP A.1.fU D.2.fi D.2.fh else bif D.1==6 then AA (AY fu (⟨E.fb,D.2.fi,D.2.fh⟩:Cur) (A.1.fG.length:Int)) λL=>AA (ix A.1.fG L.1) λM=>BR fu E A A.1.fc A.1.fJ.fW A.1.fJ.fQ A.1.fR A.1.fT (DB A.1.fG L.1 ({ M with fQ:=J.1 })) A.1.fP A.1.fU L.2.fi L.2.fh else bif D.1==7 then AA (B9 fu (⟨E.fb,D.2.fi,D.2.fh⟩:Cur) ([8,-1,1000]:List Int)) λL=>BR fu E A A.1.fc A.1.fJ.fW A.1.fJ.fQ A.1.fR A.1.fT A.1.fG L.1 A.1.fU L.2.fi L.2.fh else bif D.1==8 then AA (AY fu (⟨E.fb,D.2.fi,D.2.fh⟩:Cur) 5) λL=>AA (AY fu (⟨E.fb,L.2.fi,L.2.fh⟩:Cur) 8) λM=>AA (BE 56 A.1.fU ([(⟨3,1,2,3,4,L.1,M.1⟩:Item)]:List Item)) λL=>BR fu E A A.1.fc A.1.fJ.fW A.1.fJ.fQ A.1.fR A.1.fT A.1.fG A.1.fP L M.2.fi M.2.fh else bif D.1==9 then bif (A.1.fU.length:Int)>0 then AA (ix A.1.fU 0) λL=>BR fu E A A.1.fc A.1.fJ.fW A.1.fJ.fQ A.1.fR A.1.fT A.1.fG A.1.fP (DB A.1.fU 0 ({ L with fD:=J.1 })) D.2.fi D.2.fh else BR fu E A A.1.fc A.1.fJ.fW A.1.fJ.fQ A.1.fR A.1.fT A.1.fG A.1.fP A.1.fU D.2.fi D.2.fh else bif D.1==10 then bif (A.1.fT.length:Int)>0 then AA (RA A.1.fT 1 (A.1.fT.length:Int)) λJ=>BR fu E A A.1.fc A.1.fJ.fW A.1.fJ.fQ A.1.fR J A.1.fG A.1.fP A.1.fU D.2.fi D.2.fh else BR fu E A A.1.fc A.1.fJ.fW A.1.fJ.fQ A.1.fR A.1.fT A.1.fG A.1.fP A.1.fU D.2.fi D.2.fh else bif D.1==11 then AA (ix A.1.fG 0) λJ=>AA (BE 56 A.1.fG ([J]:List Typ)) λJ=>BR fu E A A.1.fc A.1.fJ.fW A.1.fJ.fQ A.1.fR A.1.fT J A.1.fP A.1.fU D.2.fi D.2.fh else bif D.1==12 then BR fu E A A.1.fc A.1.fJ.fW A.1.fJ.fQ A.1.fR A.1.fT ([]:List Typ) A.1.fP A.1.fU D.2.fi D.2.fh else BR fu E A A.1.fc A.1.fJ.fW A.1.fJ.fQ A.1.fR A.1.fT A.1.fG A.1.fP A.1.fU D.2.fi D.2.fh
def A2 (fu:Nat) (A E D:Int):Option Bool:=bif A≥E then some (A≤D) else some false
def Tf (fu:Nat) (A:Request) (M:List ByteArray→List (List Int)→Int→Option ((List ByteArray)×(List (List Int)))) (J:List ByteArray) (E:List (List Int)) (D:Int):Option ((List ByteArray)×(List (List Int))):=bif D<A.fU.length then AA (ix A.fU D) λA=>AA (BE 16 J [⟨#[105,116,101,109]⟩]) λL=>AA (BE 24 E [[A.fe,A.fW,A.fH,A.fD,A.fQ,A.fO,A.f9]]) λA=>M L A (AK (D+1)) else some (J,E)
def HZ (fu:Nat) (A:Request):Nat→List ByteArray→List (List Int)→Int→Option ((List ByteArray)×(List (List Int)))|0=>λ_ _ _=>none|n+1=>Tf fu A (HZ fu A n)
def SL fu D (M:List ByteArray→List (List Int)→Int→Option ((List ByteArray)×(List (List Int)))) L J E:=bif E<D.fG.length then AA (ix D.fG E) λA=>AA (BE 16 L [⟨#[116,121,112,101]⟩]) λN=>AA (BE 24 J [[A.fe,A.fW,A.fH,A.fD,A.ff,A.fQ,A.fd]]) λA=>M N A (AK (E+1)) else AA (BE 16 L [⟨#[109,97,115,116,101,114]⟩]) λA=>AA (BE 24 J [[D.fP]]) λE=>HZ fu D fu A E 0
def IL (fu:Nat) (A:Request):Nat→List ByteArray→List (List Int)→Int→Option ((List ByteArray)×(List (List Int)))|0=>λ_ _ _=>none|n+1=>SL fu A (IL fu A n)
def TH fu A (N:List ByteArray→List (List Int)→Int→Option ((List ByteArray)×(List (List Int)))) L E D:=bif D<A.fT.length then AA (BE 16 L [⟨#[119,105,116,104]⟩]) λM=>AA (ix A.fT D) λJ=>AA (ix A.fT D) λ_=>AA (BE 24 E [[J.fA,J.fB]]) λJ=>N M J (AK (D+1)) else IL fu A fu L E 0
def Ko (fu:Nat) (A:Request):Nat→List ByteArray→List (List Int)→Int→Option ((List ByteArray)×(List (List Int)))|0=>λ_ _ _=>none|n+1=>TH fu A (Ko fu A n)
def VY fu A:=Ko fu A fu [⟨#[112,97,108,108,101,116]⟩,⟨#[99,108,97,115,115,101,115]⟩] [[A.fJ.fW,A.fJ.fD,A.fJ.fH,A.fJ.fQ],[A.fR]] 0
def PC (fu:Nat) (J:Int→ByteArray→Option ByteArray) (D:Int) (E:ByteArray) (A:Int):Option ByteArray:=AA (Ze [⟨w8 (AK (48+A))⟩]) λA=>AA (NY A E) λA=>J (AK (Int.tdiv D 10)) A
def S4 (fu:Nat) (n1:Int) (E:Int→ByteArray→Option ByteArray) (A:Int) (D:ByteArray):Option ByteArray:=bif A != 0 then bif Int.tmod A 10<0 then PC fu E A D (AK (0 - Int.tmod A 10)) else PC fu E A D (Int.tmod A 10) else bif n1<0 then AA (NY ⟨#[45]⟩ D) λA=>some A else some D
def IH (fu:Nat) (n1:Int):Nat→Int→ByteArray→Option ByteArray|0=>λ_ _=>none|n+1=>S4 fu n1 (IH fu n1 n)
def K0 fu n1:=bif n1==0 then some ⟨#[48]⟩ else IH fu n1 fu n1 ⟨#[]⟩
def UM fu D (M:ByteArray→Int→Option (ByteArray×Bool)) J A:=bif A<D.length then AA (ix D A) λE=>AA (A2 fu E 0 999999) λL=>bif !L then some (⟨#[]⟩,false) else AA (NY J ⟨#[32]⟩) λL=>AA (ix D A) λ_=>AA (K0 fu E) λD=>AA (NY L D) λD=>M D (AK (A+1)) else AA (NY J ⟨#[10]⟩) λA=>some (A,true)
def KO (fu:Nat) (A:List Int):Nat→ByteArray→Int→Option (ByteArray×Bool)|0=>λ_ _=>none|n+1=>UM fu A (KO fu A n)
def Xn fu A D:=KO fu D fu A 0
def M2 (fu:Nat) (D:(List ByteArray)×(List (List Int))) (L:ByteArray→Int→Option ByteArray) (E:ByteArray) (A:Int):Option ByteArray:=bif A<D.1.length then AA (ix D.1 A) λJ=>AA (ix D.2 A) λD=>AA (Xn fu J D) λD=>bif !D.2 then some ⟨#[]⟩ else AA (NY E D.1) λD=>L D (AK (A+1)) else some E
def HK (fu:Nat) (A:(List ByteArray)×(List (List Int))):Nat→ByteArray→Int→Option ByteArray|0=>λ_ _=>none|n+1=>M2 fu A (HK fu A n)
def J7 fu A:=AA (A2 fu A.fc 0 1) λD=>bif !D then some ⟨#[]⟩ else AA (ix [⟨#[119,97,121,32,102,105,114,115,116,10]⟩,⟨#[119,97,121,32,110,101,120,116,10]⟩] A.fc) λD=>AA (VY fu A) λA=>HK fu A fu D 0
def MO (fu:Nat) (E:Cur) (D:List ByteArray):Option (ByteArray×Cur):=AA (AY fu E D.length) λA=>AA (ix D A.1) λD=>some (D,⟨E.fb,A.2.fi,A.2.fh⟩)
def Wg (fu:Nat) (D:Cur):Option (ByteArray×Cur):=AA (RU fu D) λA=>AA (J7 fu A.1) λM=>AA (qh M) λE=>AA (AY fu ⟨D.fb,A.2.fi,A.2.fh⟩ (AK (E.length+1))) λJ=>AA (AY fu ⟨D.fb,J.2.fi,J.2.fh⟩ 10) λA=>bif A.1==0 then AA (RA E 0 J.1) λL=>AA (Ze L) λL=>some (L,⟨D.fb,A.2.fi,A.2.fh⟩) else bif A.1==1 then AA (RA E 0 J.1) λL=>AA (Ze L) λO=>AA (RA E J.1 E.length) λL=>AA (Ze L) λN=>AA (MO fu ⟨D.fb,A.2.fi,A.2.fh⟩ [⟨#[120]⟩,⟨#[32]⟩,⟨#[48]⟩,⟨#[10]⟩,⟨#[105,116,101,109,32,49,32,49,32,49,32,49,32,49,32,48,32,49,10]⟩,⟨#[57,57,57,57,57,57,57]⟩]) λL=>AA (NY O L.1) λO=>AA (NY O N) λN=>some (N,⟨D.fb,L.2.fi,L.2.fh⟩) else bif A.1==2 then bif J.1<E.length then AA (RA E 0 J.1) λL=>AA (Ze L) λL=>AA (RA E (AK (J.1+1)) E.length) λE=>AA (Ze E) λE=>AA (NY L E) λE=>some (E,⟨D.fb,A.2.fi,A.2.fh⟩) else some (M,⟨D.fb,A.2.fi,A.2.fh⟩) else bif A.1==3 then AA (MO fu ⟨D.fb,A.2.fi,A.2.fh⟩ [⟨#[]⟩,⟨#[119,97,121,32,102,105,114,115,116,10]⟩,⟨#[119,97,121,10]⟩,⟨#[119,97,121,32,110,101,120,116,10,112,97,108,108,101,116,32,49,32,49,32,49,32,49,10,99,108,97,115,115,101,115,32,49,10,109,97,115,116,101,114,32,49,10]⟩,⟨#[119,97,121,32,110,101,120,116,10,112,97,108,108,101,116,32,49,32,49,32,49,32,48,49,10]⟩,⟨#[119,97,121,32,102,105,114,115,116,10,112,97,108,108,101,116,32,49,32,49,32,49,32,49,10,99,108,97,115,115,101,115,32,49,10,109,97,115,116,101,114,32,49]⟩]) λE=>some (E.1,⟨D.fb,E.2.fi,E.2.fh⟩) else some (M,⟨D.fb,A.2.fi,A.2.fh⟩)
def FB fu A:=AA (A2 fu A 1 2000) λA=>some A
def JN fu (A:Pallet):=AA (FB fu A.fW) λD=>bif D then AA (FB fu A.fD) λD=>bif D then AA (FB fu A.fH) λD=>bif D then AA (A2 fu A.fQ 1 100000) λA=>some A else some false else some false else some false
def OC fu A:=AA (A2 fu A 0 999) λA=>some A
def VX fu (A:Typ):=AA (OC fu A.fe) λD=>bif D then AA (FB fu A.fW) λD=>bif D then AA (FB fu A.fH) λD=>bif D then AA (FB fu A.fD) λD=>bif D then AA (A2 fu A.ff 0 100000) λD=>bif D then AA (A2 fu A.fQ 1 100000) λD=>bif D then AA (A2 fu A.fd 0 100000) λA=>some A else some false else some false else some false else some false else some false else some false
def V3 fu (A:Item):=AA (OC fu A.fe) λD=>bif D then AA (FB fu A.fW) λD=>bif D then AA (FB fu A.fH) λD=>bif D then AA (FB fu A.fD) λD=>bif D then AA (A2 fu A.fQ 1 100000) λD=>bif D then AA (A2 fu A.fO 0 3) λD=>bif D then AA (A2 fu A.f9 1 6) λA=>some A else some false else some false else some false else some false else some false else some false
def Tg (fu:Nat) (A:Int→Option Bool) (D:Int):Option Bool:=A (AK (D+1))
def N3 (fu:Nat) (D:Request) (L:Int→Int→Option Bool) (E A:Int):Option Bool:=bif A<D.fU.length then AA (ix D.fU A) λJ=>AA (V3 fu J) λM=>bif !M then some false else AA (ix D.fU A) λ_=>L (AK (E+J.f9)) (AK (A+1)) else some (E≤12)
def E3 (fu:Nat) (A:Request):Nat→Int→Int→Option Bool|0=>λ_ _=>none|n+1=>N3 fu A (E3 fu A n)
def O2 fu A (J:Int→Option Bool) D:=bif D<A.fG.length then AA (ix A.fG D) λE=>AA (VX fu E) λE=>bif !E then some false else J (AK (D+1)) else E3 fu A fu 0 0
def E7 (fu:Nat) (A:Request):Nat→Int→Option Bool|0=>λ_=>none|n+1=>O2 fu A (E7 fu A n)
def N2 fu A L D:=bif D<A.fT.length then AA (ix A.fT D) λE=>AA (A2 fu E.fA 0 3) λJ=>bif !J then some false else AA (ix A.fT D) λ_=>AA (A2 fu E.fB 0 3) λE=>bif !E then some false else Tg fu L D else E7 fu A fu 0
def E6 (fu:Nat) (A:Request):Nat→Int→Option Bool|0=>λ_=>none|n+1=>N2 fu A (E6 fu A n)
def Tw fu A:=E6 fu A fu 0
def R9 (fu:Nat) (A:Request):Option Bool:=AA (A2 fu A.fc 0 1) λD=>bif !D then some false else AA (JN fu A.fJ) λD=>bif !D then some false else AA (A2 fu A.fR 1 4) λD=>bif !D then some false else bif (A.fT.length:Int)>16 then some false else AA (A2 fu (A.fG.length:Int) 1 5) λD=>bif !D then some false else AA (OC fu A.fP) λD=>bif !D then some false else bif (A.fU.length:Int)>8 then some false else Tw fu A
def OD (fu:Nat) (A:Request) (J:Int→Option (Typ×Bool)) (D:Int):Option (Typ×Bool):=bif D<A.fG.length then AA (ix A.fG D) λE=>bif E.fe==A.fP then AA (ix A.fG D) λ_=>some (E,true) else J (AK (D+1)) else some (⟨0,0,0,0,0,0,0⟩,false)
def II (fu:Nat) (A:Request):Nat→Int→Option (Typ×Bool)|0=>λ_=>none|n+1=>OD fu A (II fu A n)
def HP fu A:=II fu A fu 0
def QL (fu:Nat) (L:Int→Option Bool) (E:Request) (A:Int) (M:Int→Option Bool) (D:Int):Option Bool:=bif D<A then AA (ix E.fG A) λJ=>AA (ix E.fG D) λE=>bif J.fe==E.fe then some false else M (AK (D+1)) else L (AK (A+1))
def FM (fu:Nat) (E:Int→Option Bool) (A:Request) (D:Int):Nat→Int→Option Bool|0=>λ_=>none|n+1=>QL fu E A D (FM fu E A D n)
def QG (fu:Nat) (J:Int→Option Bool) (E:Request) (A:Int) (M:Int→Option Bool) (D:Int):Option Bool:=bif D<A then AA (ix E.fU A) λL=>AA (ix E.fU D) λE=>bif L.fe==E.fe then some false else M (AK (D+1)) else J (AK (A+1))
def FQ (fu:Nat) (A:Int→Option Bool) (D:Request) (E:Int):Nat→Int→Option Bool|0=>λ_=>none|n+1=>QG fu A D E (FQ fu A D E n)
def TU (fu:Nat) (D:Int→Option Bool) (A:Int):Option Bool:=D (AK (A+1))
def QI fu A J D:=bif D<A.fT.length then AA (ix A.fT D) λE=>bif E.fA≥A.fR then some false else AA (ix A.fT D) λ_=>bif E.fB≥A.fR then some false else TU fu J D else AA (HP fu A) λA=>some A.2
def ER (fu:Nat) (A:Request):Nat→Int→Option Bool|0=>λ_=>none|n+1=>QI fu A (ER fu A n)
def Rj fu A E D:=bif D<A.fU.length then AA (ix A.fU D) λJ=>bif J.fO≥A.fR then some false else FQ fu E A D fu 0 else ER fu A fu 0
def B0 (fu:Nat) (A:Request):Nat→Int→Option Bool|0=>λ_=>none|n+1=>Rj fu A (B0 fu A n)
def Q8 fu A E D:=bif D<A.fG.length then FM fu E A D fu 0 else B0 fu A fu 0
def B8 (fu:Nat) (A:Request):Nat→Int→Option Bool|0=>λ_=>none|n+1=>Q8 fu A (B8 fu A n)
def Ua fu A:=B8 fu A fu 0
def PM (fu:Nat) (D:Int→Option Bool) (A:Int):Option Bool:=D (AK (A+1))
def TD (fu:Nat) (D:List Pair) (M L:Int) (J:Int→Option Bool) (A:Int):Option Bool:=bif A<D.length then AA (ix D A) λE=>bif E.fA==M then AA (ix D A) λ_=>bif E.fB==L then some true else PM fu J A else PM fu J A else some false
def IC (fu:Nat) (A:List Pair) (E D:Int):Nat→Int→Option Bool|0=>λ_=>none|n+1=>TD fu A E D (IC fu A E D n)
def GQ fu A E D:=IC fu A E D fu 0
def NN (fu:Nat) (A:Int→Option Bool) (D:Int):Option Bool:=A (AK (D+1))
def Qh fu (L:Int→Option Bool) E M D J A:=bif A<M then bif D==A then AA (GQ fu E D D) λM=>bif !M then some false else AA (GQ fu E D A) λM=>AA (GQ fu E A D) λN=>bif !(M==N) then some false else NN fu J A else AA (GQ fu E D A) λM=>AA (GQ fu E A D) λE=>bif !(M==E) then some false else NN fu J A else L (AK (D+1))
def FU (fu:Nat) (A:Int→Option Bool) (J:List Pair) (D E:Int):Nat→Int→Option Bool|0=>λ_=>none|n+1=>Qh fu A J D E (FU fu A J D E n)
def QU fu J D E A:=bif A<D then FU fu E J D A fu 0 else some true
def EN (fu:Nat) (D:List Pair) (A:Int):Nat→Int→Option Bool|0=>λ_=>none|n+1=>QU fu D A (EN fu D A n)
def TW fu E A:=AA (A2 fu A 1 4) λD=>bif !D then some false else EN fu E A fu 0
def OH (fu:Nat) (n1:Int) (J:List Int→Int→Option (List Int)) (D:List Int) (A:Int):Option (List Int):=bif A<n1 then AA (BE 8 D [A]) λE=>J E (AK (A+1)) else some D
def H6 (fu:Nat) (n1:Int):Nat→List Int→Int→Option (List Int)|0=>λ_ _=>none|n+1=>OH fu n1 (H6 fu n1 n)
def ML fu n1:=H6 fu n1 fu [] 0
def KP (fu:Nat) (J:List Int→Int→Int→Option (List Int)) (O:List Int) (T:Bool) (L M E:List Int) (A D:Int):Option (List Int):=bif D==M.length then AA (ix L A) λN=>AA (BE 8 E [N]) λN=>J N (AK (A+1)) D else bif A==L.length then AA (ix M D) λN=>AA (BE 8 E [N]) λN=>J N A (AK (D+1)) else AA (ix M D) λQ=>AA (ix O Q) λV=>AA (ix L A) λN=>AA (ix O N) λU=>bif V<U then bif !T then AA (ix M D) λ_=>AA (BE 8 E [Q]) λY=>J Y A (AK (D+1)) else AA (ix M D) λ_=>AA (ix O Q) λ_=>AA (ix L A) λ_=>AA (ix O N) λ_=>bif V>U then bif T then AA (ix M D) λ_=>AA (BE 8 E [Q]) λY=>J Y A (AK (D+1)) else AA (ix L A) λ_=>AA (BE 8 E [N]) λY=>J Y (AK (A+1)) D else AA (ix L A) λ_=>AA (BE 8 E [N]) λY=>J Y (AK (A+1)) D else AA (ix M D) λ_=>AA (ix O Q) λ_=>AA (ix L A) λ_=>AA (ix O N) λ_=>bif V>U then bif T then AA (ix M D) λ_=>AA (BE 8 E [Q]) λM=>J M A (AK (D+1)) else AA (ix L A) λ_=>AA (BE 8 E [N]) λM=>J M (AK (A+1)) D else AA (ix L A) λ_=>AA (BE 8 E [N]) λE=>J E (AK (A+1)) D
def Qj fu M O A D N L E J:=bif E<A.length then KP fu N M O A D L E J else bif J<D.length then KP fu N M O A D L E J else some L
def DK (fu:Nat) (E:List Int) (A:Bool) (J D:List Int):Nat→List Int→Int→Int→Option (List Int)|0=>λ_ _ _=>none|n+1=>Qj fu E A J D (DK fu E A J D n)
def X2 (fu:Nat) (A:List Int→List Int→Bool→Option (List Int)) (E D:List Int) (J:Bool):Option (List Int):=bif (D.length:Int)<2 then AA (BE 8 ([]:List Int) D) λL=>some L else AA (RA D 0 (AK (Int.tdiv (D.length:Int) 2))) λL=>AA (A E L J) λL=>AA (RA D (AK (Int.tdiv (D.length:Int) 2)) (D.length:Int)) λD=>AA (A E D J) λA=>DK fu E J L A fu ([]:List Int) 0 0
def LC (fu:Nat):Nat→List Int→List Int→Bool→Option (List Int)|0=>λ_ _ _=>none|n+1=>X2 fu (LC fu n)
def N7 fu E D A:=LC fu fu E D A
def RN fu A:=AA (ML fu A.length) λD=>AA (N7 fu A D false) λA=>some A
def OT fu D A E:=AA (RN fu [D,A,E]) λJ=>AA (ix J 0) λL=>AA (ix [D,A,E] L) λM=>AA (ix J 1) λL=>AA (ix [D,A,E] L) λL=>AA (ix J 2) λJ=>AA (ix [D,A,E] J) λA=>some [M,L,A]
def TL (fu:Nat) (D:Item) (A:Typ):Option Bool:=AA (OT fu D.fW D.fH D.fD) λE=>AA (OT fu A.fW A.fH A.fD) λJ=>AA (ix E 0) λM=>AA (ix J 0) λL=>bif M≤L then AA (ix E 1) λL=>AA (ix J 1) λM=>bif L≤M then AA (ix E 2) λE=>AA (ix J 2) λJ=>bif E≤J then some (D.fQ≤A.fQ) else some false else some false else some false
def WR (fu:Nat) (A:Int→Option Int) (D:Int):Option Int:=A (AK (D+1))
def T2 (fu:Nat) (A:Request) (J:Int→Option Int) (E:Int):Option Int:=bif E<A.fG.length then AA (ix A.fG E) λD=>bif D.fW>A.fJ.fW then some 6 else bif D.fD>A.fJ.fD then some 6 else bif D.fH>A.fJ.fH then some 6 else bif AK (D.ff+D.fQ)>A.fJ.fQ then some 6 else WR fu J E else some 0
def HO (fu:Nat) (A:Request):Nat→Int→Option Int|0=>λ_=>none|n+1=>T2 fu A (HO fu A n)
def U6 (fu:Nat) (A:Request) (J:Typ×Bool) (L:Int→Option Int) (D:Int):Option Int:=bif D<A.fU.length then AA (ix A.fU D) λE=>AA (TL fu E J.1) λE=>bif !E then some 5 else L (AK (D+1)) else HO fu A fu 0
def JL (fu:Nat) (A:Request) (D:Typ×Bool):Nat→Int→Option Int|0=>λ_=>none|n+1=>U6 fu A D (JL fu A D n)
def EU fu A:=AA (R9 fu A) λD=>bif !D then some 2 else AA (Ua fu A) λD=>bif !D then some 3 else AA (TW fu A.fT A.fR) λD=>bif !D then some 4 else AA (HP fu A) λD=>JL fu A D fu 0
def PW (fu:Nat) (E:List Item→Int→Option (Request×Cur)) (D:Int) (A:List Item):Option (Request×Cur):=E A (AK (D+1))
def SY (fu:Nat) (M:Cur) (A:Request×Cur) (N:Typ×Bool) (L:List Item→Int→Option (Request×Cur)) (E:List Item) (D:Int):Option (Request×Cur):=bif D<A.1.fU.length then AA (ix A.1.fU D) λJ=>AA (TL fu J N.1) λN=>bif N then AA (ix A.1.fU D) λ_=>AA (BE 56 E [J]) λJ=>PW fu L D J else PW fu L D E else some (⟨A.1.fc,⟨30,25,24,400⟩,A.1.fR,A.1.fT,A.1.fG,A.1.fP,E⟩,⟨M.fb,A.2.fi,A.2.fh⟩)
def H1 (fu:Nat) (E:Cur) (D:Request×Cur) (A:Typ×Bool):Nat→List Item→Int→Option (Request×Cur)|0=>λ_ _=>none|n+1=>SY fu E D A (H1 fu E D A n)
def RQ fu D:=AA (O4 fu D) λA=>AA (EU fu A.1) λE=>bif E != 0 then AA (HP fu ⟨A.1.fc,⟨30,25,24,400⟩,A.1.fR,A.1.fT,A.1.fG,A.1.fP,A.1.fU⟩) λE=>H1 fu D A E fu [] 0 else some (A.1,⟨D.fb,A.2.fi,A.2.fh⟩)
def R4 fu D:=AA (LT fu D) λA=>AA (J0 fu ⟨D,A.fi,A.fh⟩ 3) λA=>bif A.1 then AA (Wg fu ⟨D,A.2.fi,A.2.fh⟩) λE=>some E.1 else AA (RQ fu ⟨D,A.2.fi,A.2.fh⟩) λA=>AA (J7 fu A.1) λA=>some A
def KM (fu:Nat) (J:List ByteArray→Int→Int→Option (List ByteArray)) (A:Int) (E:List ByteArray) (D:Int):Option (List ByteArray):=J E D (AK (A+1))
def NH fu D N L E J A:=bif A≤D.size then bif A==D.size then AA (tB D J A) λM=>AA (BE 16 E [M]) λM=>KM fu L A M (AK (A+1)) else AA (sx D A) λM=>bif M==N then AA (tB D J A) λD=>AA (BE 16 E [D]) λD=>KM fu L A D (AK (A+1)) else KM fu L A E J else some E
def HS (fu:Nat) (D:ByteArray) (A:Int):Nat→List ByteArray→Int→Int→Option (List ByteArray)|0=>λ_ _ _=>none|n+1=>NH fu D A (HS fu D A n)
def L5 fu D A:=HS fu D A fu [] 0 0
def VB (fu:Nat) (D:Int→Int→Option (Int×Bool)) (E A:Int):Option (Int×Bool):=D A (AK (E+1))
def VH fu J D E A:=AA (sx D A) λD=>VB fu J A (AK (AK (AK (10*E)+AK D) - 48))
def S5 fu A L E D:=bif D<A.size then AA (sx A D) λJ=>bif J<48 then some (0,false) else AA (sx A D) λJ=>bif J>57 then some (0,false) else VH fu L A E D else AA (K0 fu E) λD=>bif !(D.toList==A.toList) then some (0,false) else some (E,true)
def GJ (fu:Nat) (A:ByteArray):Nat→Int→Int→Option (Int×Bool)|0=>λ_ _=>none|n+1=>S5 fu A (GJ fu A n)
def Vx fu A:=GJ fu A fu 0 0
def MQ (fu:Nat) (A:ByteArray):Option (Int×Bool):=bif (A.size:Int)<1 then some (0,false) else bif (A.size:Int)>6 then some (0,false) else Vx fu A
def S6 fu E (J:List Int→Int→Option ((List Int)×Bool)) D A:=bif A<E.length then AA (ix E A) λE=>AA (MQ fu E) λE=>bif !E.2 then some ([],false) else AA (BE 8 D [E.1]) λE=>J E (AK (A+1)) else some (D,true)
def J9 (fu:Nat) (A:List ByteArray):Nat→List Int→Int→Option ((List Int)×Bool)|0=>λ_ _=>none|n+1=>S6 fu A (J9 fu A n)
def VQ fu A:=J9 fu A fu [] 1
def RE fu A (J:ByteArray) D:=AA (L5 fu A 32) λA=>AA (ix A 0) λE=>bif !(E.toList==J.toList) then some ([],false) else bif A.length != AK (D+1) then some ([],false) else VQ fu A
def BV fu D A E J:=bif A≥AK (D.length - 1) then some ([],false) else AA (ix D A) λA=>AA (RE fu A E J) λA=>some (A.1,A.2)
def M9 (fu:Nat) (E:List ByteArray) (V O L Q Ao Aq:Int) (Z:List Pair) (U:List Typ) (h:Int) (N:List Item→Int→List Int→Bool→Option (Request×Int)) (J:List Item) (D:Int) (A:List Int) (M:Bool):Option (Request×Int):=bif M then AA (ix A 0) λe=>AA (ix A 1) λAt=>AA (ix A 2) λY=>AA (ix A 3) λAr=>AA (ix A 4) λM=>AA (ix A 5) λT=>AA (ix A 6) λA=>AA (BE 56 J ([(⟨e,At,Y,Ar,M,T,A⟩:Item)]:List Item)) λM=>AA (BV fu E (AK (D+1)) (⟨#[105,116,101,109]⟩:ByteArray) 7) λA=>N M (AK (D+1)) A.1 A.2 else bif D<AK ((E.length:Int) - 1) then some ((⟨0,(⟨0,0,0,0⟩:Pallet),0,[],[],0,[]⟩:Request),D) else AA (ix E (AK ((E.length:Int) - 1))) λA=>bif !(A.toList==(⟨#[]⟩:ByteArray).toList) then some ((⟨0,(⟨0,0,0,0⟩:Pallet),0,[],[],0,[]⟩:Request),D) else some ((⟨V,(⟨O,L,Q,Ao⟩:Pallet),Aq,Z,U,h,J⟩:Request),-1)
def HJ (fu:Nat) (J:List ByteArray) (E Q L M T N:Int) (O:List Pair) (A:List Typ) (D:Int):Nat→List Item→Int→List Int→Bool→Option (Request×Int)|0=>λ_ _ _ _=>none|n+1=>M9 fu J E Q L M T N O A D (HJ fu J E Q L M T N O A D n)
def M1 fu E Z M L O Q Y U (T:List Typ→Int→List Int→Bool→Option (Request×Int)) J D A N:=bif N then AA (ix A 0) λV=>AA (ix A 1) λN=>AA (ix A 2) λh=>AA (ix A 3) λe=>AA (ix A 4) λAr=>AA (ix A 5) λAo=>AA (ix A 6) λA=>AA (BE 56 J [⟨V,N,h,e,Ar,Ao,A⟩]) λN=>AA (BV fu E (AK (D+1)) ⟨#[116,121,112,101]⟩ 7) λA=>T N (AK (D+1)) A.1 A.2 else AA (BV fu E D ⟨#[109,97,115,116,101,114]⟩ 1) λA=>bif !A.2 then some (⟨0,⟨0,0,0,0⟩,0,[],[],0,[]⟩,D) else AA (ix A.1 0) λN=>AA (BV fu E (AK (D+1)) ⟨#[105,116,101,109]⟩ 7) λA=>HJ fu E Z M L O Q Y U J N fu [] (AK (D+1)) A.1 A.2
def HF (fu:Nat) (J:List ByteArray) (E N A L M D:Int) (O:List Pair):Nat→List Typ→Int→List Int→Bool→Option (Request×Int)|0=>λ_ _ _ _=>none|n+1=>M1 fu J E N A L M D O (HF fu J E N A L M D O n)
def Vq fu D L M U T N V (O:List Pair→Int→List Int→Bool→Option (Request×Int)) J A E Q:=bif Q then AA (ix E 0) λQ=>AA (ix E 1) λE=>AA (BE 16 J [⟨Q,E⟩]) λQ=>AA (BV fu D (AK (A+1)) ⟨#[119,105,116,104]⟩ 2) λE=>O Q (AK (A+1)) E.1 E.2 else AA (BV fu D A ⟨#[116,121,112,101]⟩ 7) λE=>HF fu D L M U T N V J fu [] A E.1 E.2
def JR (fu:Nat) (J:List ByteArray) (E N A L M D:Int):Nat→List Pair→Int→List Int→Bool→Option (Request×Int)|0=>λ_ _ _ _=>none|n+1=>Vq fu J E N A L M D (JR fu J E N A L M D n)
def FI fu D E:=AA (BV fu D 1 ⟨#[112,97,108,108,101,116]⟩ 4) λA=>bif !A.2 then some (⟨0,⟨0,0,0,0⟩,0,[],[],0,[]⟩,1) else AA (ix A.1 0) λO=>AA (ix A.1 1) λL=>AA (ix A.1 2) λN=>AA (ix A.1 3) λM=>AA (BV fu D 2 ⟨#[99,108,97,115,115,101,115]⟩ 1) λA=>bif !A.2 then some (⟨0,⟨0,0,0,0⟩,0,[],[],0,[]⟩,2) else AA (ix A.1 0) λJ=>AA (BV fu D 3 ⟨#[119,105,116,104]⟩ 2) λA=>JR fu D E O L N M J fu [] 3 A.1 A.2
def JQ (fu:Nat) (A:List ByteArray):Option (Request×Int):=AA (ix A 0) λD=>bif D.toList==(⟨#[119,97,121,32,110,101,120,116]⟩:ByteArray).toList then FI fu A 1 else FI fu A 0
def J6 (fu:Nat) (A:ByteArray):Option (Request×Int):=AA (L5 fu A 10) λA=>bif AK ((A.length:Int) - 1)>60 then some ((⟨0,(⟨0,0,0,0⟩:Pallet),0,[],[],0,[]⟩:Request),60) else bif AK ((A.length:Int) - 1)<1 then some ((⟨0,(⟨0,0,0,0⟩:Pallet),0,[],[],0,[]⟩:Request),0) else AA (ix A 0) λD=>bif !(D.toList==(⟨#[119,97,121,32,102,105,114,115,116]⟩:ByteArray).toList) then AA (ix A 0) λ_=>bif !(D.toList==(⟨#[119,97,121,32,110,101,120,116]⟩:ByteArray).toList) then some ((⟨0,(⟨0,0,0,0⟩:Pallet),0,[],[],0,[]⟩:Request),0) else JQ fu A else JQ fu A
def N9 fu A:=AA (J6 fu A) λA=>bif A.2≥0 then some 1 else AA (EU fu A.1) λA=>some A
def NI (fu:Nat) (E:List Int→Int→Option (List Int)) (D:Int) (A:List Int):Option (List Int):=E A (AK (D+1))
def NP (fu:Nat) (E:Bool→Int→Option (List Int)) (A:Int) (D:Bool):Option (List Int):=E D (AK (A+1))
def Qv (fu:Nat) (L:List Int→Int→Option (List Int)) (E:Request) (M:List Int) (A:Int) (N:Bool→Int→Option (List Int)) (J:Bool) (D:Int):Option (List Int):=bif D<E.fU.length then bif J then NP fu N D true else AA (ix E.fU D) λE=>NP fu N D (E.fO==A) else bif J then AA (BE 8 M [A]) λD=>NI fu L A D else NI fu L A M
def FP (fu:Nat) (J:List Int→Int→Option (List Int)) (D:Request) (A:List Int) (E:Int):Nat→Bool→Int→Option (List Int)|0=>λ_ _=>none|n+1=>Qv fu J D A E (FP fu J D A E n)
def QK fu E J D A:=bif A<4 then FP fu J E D A fu false 0 else some D
def ET (fu:Nat) (A:Request):Nat→List Int→Int→Option (List Int)|0=>λ_ _=>none|n+1=>QK fu A (ET fu A n)
def US fu A:=AA (EU fu A) λD=>bif D != 0 then some [] else ET fu A fu [] 0
def Ur (fu:Nat) (D:List Int) (E:Int) (J:Int→Option Bool) (A:Int):Option Bool:=bif A<D.length then AA (ix D A) λD=>bif D==E then some true else J (AK (A+1)) else some false
def KN (fu:Nat) (A:List Int) (D:Int):Nat→Int→Option Bool|0=>λ_=>none|n+1=>Ur fu A D (KN fu A D n)
def PD fu A D:=KN fu A D fu 0
def U9 (fu:Nat) (D:Int→Option Bool) (A:Int):Option Bool:=D (AK (A+1))
def Q5 fu E D J M A:=bif A<D.length then AA (ix D A) λL=>AA (GQ fu E L J) λN=>bif !N then some false else AA (ix D A) λ_=>AA (GQ fu E J L) λD=>bif !D then some false else U9 fu M A else some true
def GY (fu:Nat) (E:List Pair) (D:List Int) (A:Int):Nat→Int→Option Bool|0=>λ_=>none|n+1=>Q5 fu E D A (GY fu E D A n)
def UN fu E D A:=GY fu E D A fu 0
def J4 (fu:Nat) (A:List (List Int)→Int→Option (List (List Int))) (E:Int) (D:List (List Int)):Option (List (List Int)):=A D (AK (E+1))
def PV (fu:Nat) (E:Int→Int→Option (List (List Int))) (D A:Int):Option (List (List Int)):=E A (AK (D - 1))
def S9 fu M N D A L J E:=bif E≥0 then AA (ix D E) λO=>AA (UN fu N O A) λN=>bif N then PV fu L E E else PV fu L E J else bif J<0 then AA (BE 24 D [[A]]) λE=>J4 fu M A E else AA (ix D J) λE=>AA (BE 8 E [A]) λE=>AA (ix D J) λ_=>J4 fu M A (DB D J E)
def GK (fu:Nat) (A:List (List Int)→Int→Option (List (List Int))) (J:List Pair) (D:List (List Int)) (E:Int):Nat→Int→Int→Option (List (List Int))|0=>λ_ _=>none|n+1=>S9 fu A J D E (GK fu A J D E n)
def SH fu J L E A D:=bif D<4 then AA (PD fu L D) λL=>bif !L then J4 fu E D A else GK fu E J A D fu (-1) (AK (A.length - 1)) else some A
def FF (fu:Nat) (D:List Pair) (A:List Int):Nat→List (List Int)→Int→Option (List (List Int))|0=>λ_ _=>none|n+1=>SH fu D A (FF fu D A n)
def Wl fu D A:=FF fu D A fu [] 0
def JM fu A:=AA (US fu A) λD=>AA (Wl fu A.fT D) λA=>some A
def Q3 (fu:Nat) (L:List Int→Int→Option (List Int)) (J:Request) (A:Int) (M:List Int→Int→Option (List Int)) (D:List Int) (E:Int):Option (List Int):=AA (ix J.fU A) λJ=>bif E<J.f9 then AA (BE 8 D [A]) λJ=>M J (AK (E+1)) else L D (AK (A+1))
def Jy (fu:Nat) (E:List Int→Int→Option (List Int)) (A:Request) (D:Int):Nat→List Int→Int→Option (List Int)|0=>λ_ _=>none|n+1=>Q3 fu E A D (Jy fu E A D n)
def Qy fu D J A E:=bif E<D.fU.length then Jy fu J D E fu A 0 else some A
def FR (fu:Nat) (A:Request):Nat→List Int→Int→Option (List Int)|0=>λ_ _=>none|n+1=>Qy fu A (FR fu A n)
def C8 fu A:=FR fu A fu [] 0
def NL (fu:Nat) (E:List Int→Int→Option (List Int)) (D:Int) (A:List Int):Option (List Int):=E A (AK (D+1))
def Ra fu (L:Request) M N E J D A:=bif A<E.length then AA (ix N M) λM=>AA (ix E A) λE=>AA (ix L.fU E) λE=>AA (PD fu M E.fO) λE=>bif E then AA (BE 8 D [A]) λE=>NL fu J A E else NL fu J A D else some D
def HC (fu:Nat) (D:Request) (E:Int) (A:List (List Int)) (J:List Int):Nat→List Int→Int→Option (List Int)|0=>λ_ _=>none|n+1=>Ra fu D E A J (HC fu D E A J n)
def UX fu A D:=AA (JM fu A) λE=>AA (A2 fu D 0 (AK (E.length - 1))) λJ=>bif !J then some [] else AA (C8 fu A) λJ=>HC fu A D E J fu [] 0
def NB (fu:Nat) (E:List Int→Int→Option (List Int)) (A:Int) (D:List Int):Option (List Int):=E D (AK (A+1))
def QB fu (M:List Int) E L D A:=bif A<E.length then AA (ix E A) λJ=>AA (A2 fu J 0 (AK (M.length - 1))) λM=>bif M then AA (ix E A) λ_=>AA (BE 8 D [J]) λE=>NB fu L A E else NB fu L A D else some D
def GT (fu:Nat) (A D:List Int):Nat→List Int→Int→Option (List Int)|0=>λ_ _=>none|n+1=>QB fu A D (GT fu A D n)
def OB fu A D:=GT fu A D fu [] 0
def K1 fu (J:Request) A D:=AA (A2 fu D 0 (AK (A.length - 1))) λE=>bif !E then some (⟨0,0,0,0,0,0,0⟩,false) else AA (ix A D) λA=>AA (ix J.fU A) λA=>some (A,true)
def VM (fu:Nat) (E A D:Int):Option Int:=some (AK (AK (E*A)*D))
def MP fu D A E:=AA (A2 fu D 0 2000) λJ=>bif !J then some 0 else AA (A2 fu A 0 2000) λJ=>bif !J then some 0 else AA (A2 fu E 0 2000) λJ=>bif !J then some 0 else VM fu D A E
def XL (fu:Nat) (A:L7→Int→Option L7) (D:Int) (E:L7):Option L7:=A E (AK (D+1))
def XG fu E (D:L7) L (A:Item):=AA (MP fu A.fW A.fH A.fD) λJ=>XL fu E L ⟨AK (D.fvol+J),AK (D.fgram+A.fQ)⟩
def Vs fu L M E J D A:=bif A<E.length then AA (ix E A) λE=>AA (K1 fu L M E) λE=>XG fu J D A E.1 else some D
def IZ (fu:Nat) (D:Request) (A E:List Int):Nat→L7→Int→Option L7|0=>λ_ _=>none|n+1=>Vs fu D A E (IZ fu D A E n)
def TM fu D A E:=IZ fu D A E fu ⟨0,0⟩ 0
def VR (fu:Nat) (A:Typ) (D:L7):Option Bool:=AA (MP fu A.fW A.fH A.fD) λE=>bif D.fvol≤E then some (D.fgram≤A.fQ) else some false
def RB fu D A L E J:=AA (BE 8 [] E) λE=>AA (BE 8 E [J]) λE=>AA (TM fu D A E) λA=>VR fu L A
def LI (fu:Nat) (E:List (List Int)→Int→Option (List (List Int))) (A:Int) (D:List (List Int)):Option (List (List Int)):=E D (AK (A+1))
def SQ (fu:Nat) (Q:Request) (E:List Int) (O:Typ×Bool) (N:List Int) (L:List (List Int)→Int→Option (List (List Int))) (A:List (List Int)) (D:Int):Option (List (List Int)):=bif D<(E.length:Int) then bif (A.length:Int)>0 then AA (ix A (AK ((A.length:Int) - 1))) λM=>AA (ix E D) λJ=>AA (RB fu Q N O.1 M J) λN=>bif N then AA (ix A (AK ((A.length:Int) - 1))) λ_=>AA (ix E D) λ_=>AA (BE 8 M ([J]:List Int)) λM=>AA (ix A (AK ((A.length:Int) - 1))) λ_=>LI fu L D (DB A (AK ((A.length:Int) - 1)) M) else AA (ix E D) λ_=>AA (BE 24 A [([J]:List Int)]) λJ=>LI fu L D J else AA (ix E D) λE=>AA (BE 24 A [([E]:List Int)]) λE=>LI fu L D E else some A
def H2 (fu:Nat) (D:Request) (E:List Int) (J:Typ×Bool) (A:List Int):Nat→List (List Int)→Int→Option (List (List Int))|0=>λ_ _=>none|n+1=>SQ fu D E J A (H2 fu D E J A n)
def Yh fu A D:=AA (HP fu A) λE=>AA (C8 fu A) λJ=>H2 fu A D E J fu [] 0
def UR fu A E:=AA (EU fu A) λD=>bif D != 0 then some [] else AA (C8 fu A) λD=>AA (OB fu D E) λD=>AA (Yh fu A D) λA=>some A
def JK fu A:=AA (ML fu A.length) λD=>AA (N7 fu A D true) λA=>some A
def NK (fu:Nat) (D:List (List Int)→Int→Option (List (List Int))) (E:Int) (A:List (List Int)):Option (List (List Int)):=D A (AK (E+1))
def NT (fu:Nat) (D:Int→Int→Option (List (List Int))) (E A:Int):Option (List (List Int)):=D A (AK (E - 1))
def QJ fu L O (U:Typ×Bool) T A M J N E D:=bif D≥0 then AA (ix A D) λQ=>AA (RB fu O T U.1 Q J) λO=>bif O then NT fu N D D else NT fu N D E else bif E<0 then AA (BE 24 A [[J]]) λD=>NK fu L M D else AA (ix A E) λD=>AA (BE 8 D [J]) λD=>AA (ix A E) λ_=>NK fu L M (DB A E D)
def G9 (fu:Nat) (M:List (List Int)→Int→Option (List (List Int))) (D:Request) (A:Typ×Bool) (N:List Int) (E:List (List Int)) (J L:Int):Nat→Int→Int→Option (List (List Int))|0=>λ_ _=>none|n+1=>QJ fu M D A N E J L (G9 fu M D A N E J L n)
def Qa fu J M L N E O A D:=bif D<E.length then AA (ix E D) λE=>AA (ix M E) λE=>G9 fu O J L N A D E fu (-1) (AK (A.length - 1)) else some A
def DN (fu:Nat) (D:Request) (L:List Int) (J:Typ×Bool) (E A:List Int):Nat→List (List Int)→Int→Option (List (List Int))|0=>λ_ _=>none|n+1=>Qa fu D L J E A (DN fu D L J E A n)
def QM fu E D O L (N:List Int→Int→Option (List (List Int))) J A:=bif A<D.length then AA (RA D A (AK (A+1))) λM=>AA (TM fu E L M) λM=>AA (BE 8 J [M.fvol]) λM=>N M (AK (A+1)) else AA (JK fu J) λA=>DN fu E D O L A fu [] 0
def JA (fu:Nat) (D:Request) (E:List Int) (J:Typ×Bool) (A:List Int):Nat→List Int→Int→Option (List (List Int))|0=>λ_ _=>none|n+1=>QM fu D E J A (JA fu D E J A n)
def XN fu A D:=AA (HP fu A) λE=>AA (C8 fu A) λJ=>JA fu A D E J fu [] 0
def RW fu A E:=AA (EU fu A) λD=>bif D != 0 then some [] else AA (C8 fu A) λD=>AA (OB fu D E) λD=>AA (XN fu A D) λA=>some A
def Um fu A D:=bif A.fc==1 then AA (UR fu A D) λE=>some E else AA (RW fu A D) λA=>some A
def WE (fu:Nat) (E:Request) (J:List Int) (A:Typ) (D:List Int):Option Bool:=AA (TM fu E D J) λD=>AA (MP fu A.fW A.fH A.fD) λE=>bif D.fvol≤E then some (D.fgram≤A.fQ) else some false
def WF (fu:Nat) (D:Int→Option Bool) (A:Int):Option Bool:=D (AK (A+1))
def WX fu L A J D E:=bif !E then some false else AA (TL fu D A) λA=>bif !A then some false else WF fu L J
def UC fu J D E M N A:=bif A<D.length then AA (ix D A) λL=>AA (K1 fu J M L) λL=>WX fu N E A L.1 L.2 else WE fu J D E M
def HR (fu:Nat) (D:Request) (A:List Int) (E:Typ) (J:List Int):Nat→Int→Option Bool|0=>λ_=>none|n+1=>UC fu D A E J (HR fu D A E J n)
def Uh fu A E J:=AA (EU fu A) λD=>bif D != 0 then some false else AA (C8 fu A) λD=>HR fu A E J D fu 0
def E1 (fu:Nat) (J:Typ→Bool→Int→Option (Typ×Bool)) (E:Int) (D:Typ) (A:Bool):Option (Typ×Bool):=J D A (AK (E+1))
def Pi fu M N J D L A:=bif A<M.fG.length then AA (ix M.fG A) λE=>AA (Uh fu M N E) λM=>bif !M then E1 fu J A D L else bif !L then E1 fu J A E true else bif E.fd<D.fd then E1 fu J A E true else bif E.fd==D.fd then bif E.fe<D.fe then E1 fu J A E true else E1 fu J A D L else E1 fu J A D L else some (D,L)
def GB (fu:Nat) (A:Request) (D:List Int):Nat→Typ→Bool→Int→Option (Typ×Bool)|0=>λ_ _ _=>none|n+1=>Pi fu A D (GB fu A D n)
def MJ fu A D:=GB fu A D fu ⟨0,0,0,0,0,0,0⟩ false 0
def QA (fu:Nat) (A:List Carton→Int→Option (List Carton)) (D:Int) (E:List Carton):Option (List Carton):=A E (AK (D+1))
def Lm (fu:Nat) (D:List Carton→Int→Option (List Carton)) (A:Int) (E:List Carton):Option (List Carton):=D E (AK (A+1))
def MT fu Q L O N J (T:Typ) D (M:List Int→Int→Option (List Carton)) E A:=bif A<D.length then AA (ix O J) λO=>AA (ix D A) λD=>AA (ix O D) λD=>AA (BE 8 E [D]) λD=>M D (AK (A+1)) else AA (BE 40 N [⟨T.fe,L,E⟩]) λA=>Lm fu Q J A
def HL (fu:Nat) (A:List Carton→Int→Option (List Carton)) (L:Int) (N:List (List Int)) (M:List Carton) (J:Int) (D:Typ) (E:List Int):Nat→List Int→Int→Option (List Carton)|0=>λ_ _=>none|n+1=>MT fu A L N M J D E (HL fu A L N M J D E n)
def Qs fu J N A L D M:=AA (ix A D) λE=>AA (RN fu E) λE=>HL fu J N A L D M E fu [] 0
def Nc fu O L J A N E D:=bif D<A.length then AA (ix A D) λM=>AA (MJ fu L M) λL=>Qs fu N J A E D L.1 else QA fu O J E
def CT (fu:Nat) (J:List Carton→Int→Option (List Carton)) (E:Request) (D:Int) (A:List (List Int)):Nat→List Carton→Int→Option (List Carton)|0=>λ_ _=>none|n+1=>Nc fu J E D A (CT fu J E D A n)
def M0 (fu:Nat) (A:Request) (J:List (List Int)) (L:List Carton→Int→Option (List Carton)) (E:List Carton) (D:Int):Option (List Carton):=bif D<J.length then AA (UX fu A D) λJ=>AA (Um fu A J) λJ=>CT fu L A D J fu E 0 else some E
def BQ (fu:Nat) (A:Request) (D:List (List Int)):Nat→List Carton→Int→Option (List Carton)|0=>λ_ _=>none|n+1=>M0 fu A D (BQ fu A D n)
def PX fu A:=AA (JM fu A) λD=>BQ fu A D fu [] 0
def OW (fu:Nat) (D:Request) (J:Int) (L:Int→Option (Typ×Bool)) (A:Int):Option (Typ×Bool):=bif A<D.fG.length then AA (ix D.fG A) λE=>bif E.fe==J then AA (ix D.fG A) λ_=>some (E,true) else L (AK (A+1)) else some (⟨0,0,0,0,0,0,0⟩,false)
def H7 (fu:Nat) (A:Request) (D:Int):Nat→Int→Option (Typ×Bool)|0=>λ_=>none|n+1=>OW fu A D (H7 fu A D n)
def KI fu A D:=H7 fu A D fu 0
def Xc fu A:=AA (EU fu A) λD=>bif D != 0 then some [] else AA (C8 fu A) λA=>some A
def VF (fu:Nat) (A:Int→Int→Option Int) (D E:Int):Option Int:=A E (AK (D+1))
def VI fu A E D (J:Item):=VF fu A D (AK (E+J.fQ))
def TB fu L E M J D A:=bif A<E.length then AA (ix E A) λE=>AA (K1 fu L M E) λE=>VI fu J D A E.1 else some D
def GG (fu:Nat) (D:Request) (A:List Int) (E:List Int):Nat→Int→Int→Option Int|0=>λ_ _=>none|n+1=>TB fu D A E (GG fu D A E n)
def V6 fu A E:=AA (Xc fu A) λD=>GG fu A E D fu 0 0
def WM fu D (E:Carton) (A:Typ×Bool):=AA (V6 fu D E.fK) λD=>some (AK (A.1.ff+D))
def UF fu A E:=AA (KI fu A E.f8) λD=>AA (EU fu A) λJ=>bif J != 0 then some 0 else bif !D.2 then some 0 else WM fu A E D
def WL (fu:Nat) (D:Request) (E:Carton) (A:Typ×Bool):Option Box:=AA (UF fu D E) λD=>some ⟨A.1.fW,A.1.fD,A.1.fH,D⟩
def L9 fu A E:=AA (KI fu A E.f8) λD=>AA (EU fu A) λJ=>bif J != 0 then some ⟨0,0,0,0⟩ else bif !D.2 then some ⟨0,0,0,0⟩ else WL fu A E D
def T6 (fu:Nat) (D:Int→Option Bool) (A:Int):Option Bool:=D (AK (A+1))
def P4 (fu:Nat) (D:Pallet) (A:List Box) (L:Int→Option Bool) (E:Int):Option Bool:=bif E<A.length then AA (ix A E) λA=>AA (A2 fu A.fW 1 D.fW) λJ=>bif !J then some false else AA (A2 fu A.fD 1 D.fD) λJ=>bif !J then some false else AA (A2 fu A.fH 1 D.fH) λJ=>bif !J then some false else AA (A2 fu A.fQ 1 D.fQ) λA=>bif !A then some false else T6 fu L E else some true
def G7 (fu:Nat) (D:Pallet) (A:List Box):Nat→Int→Option Bool|0=>λ_=>none|n+1=>P4 fu D A (G7 fu D A n)
def O5 fu A D:=AA (JN fu A) λE=>bif !E then some false else G7 fu A D fu 0
def LX (fu:Nat) (A D:Int):Option Int:=bif A>D then some A else some D
def IV (fu:Nat) (A:Shelf) (J:Int) (D:Box):Option Shelf:=AA (BE 8 [] A.f7) λE=>AA (BE 8 E [J]) λL=>AA (LX fu A.fD D.fD) λJ=>AA (LX fu A.fH D.fH) λE=>some ⟨L,AK (A.fW+D.fW),J,E,AK (A.fQ+D.fQ)⟩
def JE (fu:Nat) (A:List Shelf→Int→Option (List Shelf)) (D:Int) (E:List Shelf):Option (List Shelf):=A E (AK (D+1))
def P3 (fu:Nat) (O:Pallet) (J:List Box) (E:List Int) (M:List Shelf→Int→Option (List Shelf)) (A:List Shelf) (D:Int):Option (List Shelf):=bif D<(E.length:Int) then AA (ix E D) λL=>AA (ix J L) λJ=>bif (A.length:Int)>0 then AA (ix A (AK ((A.length:Int) - 1))) λN=>bif AK (N.fW+J.fW)≤O.fW then AA (ix A (AK ((A.length:Int) - 1))) λ_=>bif AK (N.fQ+J.fQ)≤O.fQ then AA (ix A (AK ((A.length:Int) - 1))) λ_=>AA (ix E D) λ_=>AA (IV fu N L J) λN=>AA (ix A (AK ((A.length:Int) - 1))) λ_=>JE fu M D (DB A (AK ((A.length:Int) - 1)) N) else AA (ix E D) λ_=>AA (IV fu (⟨[],0,0,0,0⟩:Shelf) L J) λN=>AA (BE 56 A [N]) λN=>JE fu M D N else AA (ix E D) λ_=>AA (IV fu (⟨[],0,0,0,0⟩:Shelf) L J) λN=>AA (BE 56 A [N]) λN=>JE fu M D N else AA (ix E D) λ_=>AA (IV fu (⟨[],0,0,0,0⟩:Shelf) L J) λE=>AA (BE 56 A [E]) λE=>JE fu M D E else some A
def FO (fu:Nat) (E:Pallet) (D:List Box) (A:List Int):Nat→List Shelf→Int→Option (List Shelf)|0=>λ_ _=>none|n+1=>P3 fu E D A (FO fu E D A n)
def QQ fu L D (M:List Int→Int→Option (List Shelf)) E A:=bif A<D.length then AA (ix D A) λJ=>AA (BE 8 E [J.fD]) λJ=>M J (AK (A+1)) else AA (JK fu E) λA=>FO fu L D A fu [] 0
def I4 (fu:Nat) (D:Pallet) (A:List Box):Nat→List Int→Int→Option (List Shelf)|0=>λ_ _=>none|n+1=>QQ fu D A (I4 fu D A n)
def UP fu D A:=AA (O5 fu D A) λE=>bif !E then some [] else I4 fu D A fu [] 0
def T4 fu (A:Pallet) D J E:=AA (A2 fu D 1 A.fD) λD=>bif D then AA (A2 fu J 1 A.fH) λD=>bif D then AA (A2 fu E 1 A.fQ) λA=>some A else some false else some false
def MY (fu:Nat) (J:Pallet) (D:List Shelf) (L:Int→Option Bool) (A:Int):Option Bool:=bif A<D.length then AA (ix D A) λE=>AA (ix D A) λ_=>AA (ix D A) λ_=>AA (T4 fu J E.fD E.fH E.fQ) λD=>bif !D then some false else L (AK (A+1)) else some true
def HH (fu:Nat) (D:Pallet) (A:List Shelf):Nat→Int→Option Bool|0=>λ_=>none|n+1=>MY fu D A (HH fu D A n)
def PQ fu A D:=AA (JN fu A) λE=>bif !E then some false else HH fu A D fu 0
def Tu (fu:Nat) (A:List Layer→Int→Option (List Layer)) (E:Int) (D:List Layer):Option (List Layer):=A D (AK (E+1))
def D9 fu M L (E:Shelf) D J:=AA (ix D (AK (J - 1))) λA=>AA (BE 8 [] A.fM) λN=>AA (BE 8 N [L]) λO=>AA (LX fu A.fH E.fH) λN=>AA (ix D (AK (J - 1))) λ_=>Tu fu M L (DB D (AK (J - 1)) ⟨O,AK (A.fD+E.fD),N,AK (A.fQ+E.fQ)⟩)
def O7 (fu:Nat) (M:Pallet) (E:List Shelf) (J:List Layer→Int→Option (List Layer)) (A:List Layer) (D:Int):Option (List Layer):=bif D<(E.length:Int) then AA (ix E D) λE=>bif (A.length:Int)==0 then AA (BE 48 A [(⟨[],0,0,0⟩:Layer)]) λL=>D9 fu J D E L (AK ((A.length:Int)+1)) else AA (ix A (AK ((A.length:Int) - 1))) λL=>bif AK (L.fD+E.fD)>M.fD then AA (BE 48 A [(⟨[],0,0,0⟩:Layer)]) λN=>D9 fu J D E N (AK ((A.length:Int)+1)) else AA (ix A (AK ((A.length:Int) - 1))) λ_=>bif AK (L.fQ+E.fQ)>M.fQ then AA (BE 48 A [(⟨[],0,0,0⟩:Layer)]) λL=>D9 fu J D E L (AK ((A.length:Int)+1)) else D9 fu J D E A (A.length:Int) else some A
def B1 (fu:Nat) (D:Pallet) (A:List Shelf):Nat→List Layer→Int→Option (List Layer)|0=>λ_ _=>none|n+1=>O7 fu D A (B1 fu D A n)
def R5 fu D A:=AA (PQ fu D A) λE=>bif !E then some [] else B1 fu D A fu [] 0
def OV (fu:Nat) (J:Pallet) (D:List Layer) (L:Int→Option Bool) (A:Int):Option Bool:=bif A<D.length then AA (ix D A) λE=>AA (ix D A) λ_=>AA (ix D A) λ_=>AA (T4 fu J E.fD E.fH E.fQ) λD=>bif !D then some false else L (AK (A+1)) else some true
def HY (fu:Nat) (D:Pallet) (A:List Layer):Nat→Int→Option Bool|0=>λ_=>none|n+1=>OV fu D A (HY fu D A n)
def Sa fu A D:=AA (JN fu A) λE=>bif !E then some false else HY fu A D fu 0
def T7 (fu:Nat) (A:List Load→Int→Option (List Load)) (D:Int) (E:List Load):Option (List Load):=A E (AK (D+1))
def EV fu M L (J:Layer) A D:=AA (ix A (AK (D - 1))) λE=>AA (BE 8 [] E.f0) λN=>AA (BE 8 N [L]) λN=>AA (ix A (AK (D - 1))) λ_=>T7 fu M L (DB A (AK (D - 1)) ⟨N,AK (E.fH+J.fH),AK (E.fQ+J.fQ)⟩)
def QY (fu:Nat) (M:Pallet) (D:List Layer) (J:List Load→Int→Option (List Load)) (A:List Load) (E:Int):Option (List Load):=bif E<(D.length:Int) then AA (ix D E) λD=>bif (A.length:Int)==0 then AA (BE 40 A [(⟨[],0,0⟩:Load)]) λL=>EV fu J E D L (AK ((A.length:Int)+1)) else AA (ix A (AK ((A.length:Int) - 1))) λL=>bif AK (L.fH+D.fH)>M.fH then AA (BE 40 A [(⟨[],0,0⟩:Load)]) λN=>EV fu J E D N (AK ((A.length:Int)+1)) else AA (ix A (AK ((A.length:Int) - 1))) λ_=>bif AK (L.fQ+D.fQ)>M.fQ then AA (BE 40 A [(⟨[],0,0⟩:Load)]) λL=>EV fu J E D L (AK ((A.length:Int)+1)) else EV fu J E D A (A.length:Int) else some A
def B7 (fu:Nat) (D:Pallet) (A:List Layer):Nat→List Load→Int→Option (List Load)|0=>λ_ _=>none|n+1=>QY fu D A (B7 fu D A n)
def Ue fu D A:=AA (Sa fu D A) λE=>bif !E then some [] else B7 fu D A fu [] 0
def Ql (fu:Nat) (U:List Spot→Int→Int→Option (List Spot)) (T:List Box) (V O M Q:Int) (A:Shelf) (N:List Spot→Int→Int→Option (List Spot)) (J:List Spot) (L D:Int):Option (List Spot):=bif D<A.f7.length then AA (ix A.f7 D) λE=>AA (ix J E) λ_=>AA (ix A.f7 D) λ_=>AA (ix T E) λT=>N (DB J E ⟨V,L,M,O⟩) (AK (L+T.fW)) (AK (D+1)) else U J (AK (M+A.fD)) (AK (Q+1))
def JD (fu:Nat) (E:List Spot→Int→Int→Option (List Spot)) (A:List Box) (L N D M:Int) (J:Shelf):Nat→List Spot→Int→Int→Option (List Spot)|0=>λ_ _ _=>none|n+1=>Ql fu E A L N D M J (JD fu E A L N D M J n)
def Qf (fu:Nat) (T:List Spot→Int→Int→Option (List Spot)) (N:List Box) (V:List Shelf) (M J O:Int) (A:Layer) (L:List Spot→Int→Int→Option (List Spot)) (E:List Spot) (U D:Int):Option (List Spot):=bif D<A.fM.length then AA (ix A.fM D) λQ=>AA (ix V Q) λQ=>JD fu L N M J U D Q fu E 0 0 else T E (AK (J+A.fH)) (AK (O+1))
def EM (fu:Nat) (N:List Spot→Int→Int→Option (List Spot)) (E:List Box) (A:List Shelf) (D L M:Int) (J:Layer):Nat→List Spot→Int→Int→Option (List Spot)|0=>λ_ _ _=>none|n+1=>Qf fu N E A D L M J (EM fu N E A D L M J n)
def Qb (fu:Nat) (U:List Spot→Int→Option (List Spot)) (M:List Box) (Q:List Shelf) (T:List Layer) (J:List Load) (A:Int) (O:List Spot→Int→Int→Option (List Spot)) (E:List Spot) (N D:Int):Option (List Spot):=AA (ix J A) λL=>bif D<L.f0.length then AA (ix J A) λ_=>AA (ix L.f0 D) λJ=>AA (ix T J) λJ=>EM fu O M Q A N D J fu E 0 0 else U E (AK (A+1))
def C2 (fu:Nat) (L:List Spot→Int→Option (List Spot)) (E:List Box) (D:List Shelf) (J:List Layer) (A:List Load) (M:Int):Nat→List Spot→Int→Int→Option (List Spot)|0=>λ_ _ _=>none|n+1=>Qb fu L E D J A M (C2 fu L E D J A M n)
def Q1 fu J M L E N D A:=bif A<E.length then C2 fu N J M L E A fu D 0 0 else some D
def B3 (fu:Nat) (E:List Box) (A:List Shelf) (J:List Layer) (D:List Load):Nat→List Spot→Int→Option (List Spot)|0=>λ_ _=>none|n+1=>Q1 fu E A J D (B3 fu E A J D n)
def O6 fu D A:=AA (mk 32 ⟨(0:Int),(0:Int),(0:Int),(0:Int)⟩ A.length) λL=>AA (O5 fu D A) λE=>bif !E then some [] else AA (UP fu D A) λE=>AA (R5 fu D E) λJ=>AA (Ue fu D J) λD=>B3 fu A E J D fu L 0
def NR (fu:Nat) (E:Int→Int→Option Int) (D A:Int):Option Int:=E A (AK (D+1))
def P8 (fu:Nat) (D:List Spot) (L:Int→Int→Option Int) (E A:Int):Option Int:=bif A<D.length then AA (ix D A) λJ=>AA (A2 fu J.fJ 0 999999) λM=>bif M then AA (ix D A) λ_=>AA (LX fu E (AK (J.fJ+1))) λD=>NR fu L A D else NR fu L A E else some E
def GU (fu:Nat) (A:List Spot):Nat→Int→Int→Option Int|0=>λ_ _=>none|n+1=>P8 fu A (GU fu A n)
def N8 fu A:=GU fu A fu 0 0
def PS (fu:Nat) (E:List Box→Int→Option (Plan×Bool)) (D:Int) (A:List Box):Option (Plan×Bool):=E A (AK (D+1))
def SI fu (O:List Spot→Int→Int→Option (Plan×Bool)) J M D (N:List Spot→Int→Option (Plan×Bool)) L E:=bif E<D.length then AA (ix D E) λA=>AA (BE 32 L [⟨AK (A.fJ+J),A.fX,A.fY,A.fZ⟩]) λA=>N A (AK (E+1)) else AA (N8 fu D) λA=>O L (AK (J+A)) (AK (M+1))
def Ii (fu:Nat) (J:List Spot→Int→Int→Option (Plan×Bool)) (D E:Int) (A:List Spot):Nat→List Spot→Int→Option (Plan×Bool)|0=>λ_ _=>none|n+1=>SI fu J D E A (Ii fu J D E A n)
def Tp fu O J D T Q M N E A:=bif A<D.length then AA (ix D A) λL=>bif L.fF==M then AA (ix D A) λ_=>AA (L9 fu J L) λD=>AA (BE 32 E [D]) λD=>PS fu N A D else PS fu N A E else AA (O6 fu J.fJ E) λA=>Ii fu O Q M A fu T 0
def IP (fu:Nat) (M:List Spot→Int→Int→Option (Plan×Bool)) (D:Request) (A:List Carton) (E:List Spot) (J L:Int):Nat→List Box→Int→Option (Plan×Bool)|0=>λ_ _=>none|n+1=>Tp fu M D A E J L (IP fu M D A E J L n)
def TI (fu:Nat) (J:Request) (E:List Carton) (N:List (List Int)) (M:List Spot→Int→Int→Option (Plan×Bool)) (A:List Spot) (L D:Int):Option (Plan×Bool):=bif D<N.length then IP fu M J E A L D fu [] 0 else some (⟨E,A⟩,true)
def C1 (fu:Nat) (D:Request) (A:List Carton) (E:List (List Int)):Nat→List Spot→Int→Int→Option (Plan×Bool)|0=>λ_ _ _=>none|n+1=>TI fu D A E (C1 fu D A E n)
def RC fu A:=AA (EU fu A) λD=>bif D != 0 then some (⟨[],[]⟩,false) else AA (PX fu A) λD=>AA (JM fu A) λE=>C1 fu A D E fu [] 0 0
def Ll (fu:Nat) (A:Int→Option Bool) (D:Int):Option Bool:=A (AK (D+1))
def M3 (fu:Nat) (D:Carton) (J:Int→Option Bool) (A:Int):Option Bool:=bif A<D.fK.length then AA (ix D.fK A) λE=>AA (A2 fu E 0 999) λL=>bif !L then some false else bif A>0 then AA (ix D.fK A) λ_=>AA (ix D.fK (AK (A - 1))) λD=>bif E≤D then some false else Ll fu J A else Ll fu J A else some true
def FK (fu:Nat) (A:Carton):Nat→Int→Option Bool|0=>λ_=>none|n+1=>M3 fu A (FK fu A n)
def QD fu A:=FK fu A fu 0
def PP (fu:Nat) (A:Carton):Option Bool:=AA (OC fu A.f8) λD=>bif !D then some false else AA (A2 fu A.fF 0 3) λD=>bif !D then some false else bif (A.fK.length:Int)>100 then some false else QD fu A
def Vu (fu:Nat) (A:Int→Option Bool) (D:Int):Option Bool:=A (AK (D+1))
def SV (fu:Nat) (E:Plan) (J:Int→Option Bool) (D:Int):Option Bool:=bif D<E.fV.length then AA (ix E.fE D) λA=>AA (ix E.fV D) λE=>AA (PP fu E) λE=>bif !E then some false else AA (A2 fu A.fJ 0 2000) λE=>bif !E then some false else AA (A2 fu A.fX 0 2000) λE=>bif !E then some false else AA (A2 fu A.fY 0 2000) λE=>bif !E then some false else AA (A2 fu A.fZ 0 2000) λA=>bif !A then some false else Vu fu J D else some true
def H9 (fu:Nat) (A:Plan):Nat→Int→Option Bool|0=>λ_=>none|n+1=>SV fu A (H9 fu A n)
def VT fu A:=H9 fu A fu 0
def IU (fu:Nat) (A:Plan):Option Bool:=bif (A.fV.length:Int) != (A.fE.length:Int) then some false else bif (A.fV.length:Int)>100 then some false else VT fu A
def P5 fu D (L:ByteArray→Int→Option ByteArray) E A:=bif A<D.length then AA (NY E ⟨#[32]⟩) λJ=>AA (ix D A) λD=>AA (K0 fu D) λD=>AA (NY J D) λD=>L D (AK (A+1)) else some E
def FS (fu:Nat) (A:List Int):Nat→ByteArray→Int→Option ByteArray|0=>λ_ _=>none|n+1=>P5 fu A (FS fu A n)
def LA fu (D:Carton) (A:Spot):=AA (BE 8 [D.f8,D.fF,A.fJ,A.fX,A.fY,A.fZ] D.fK) λA=>FS fu A fu ⟨#[99,97,114,116,111,110]⟩ 0
def Pd (fu:Nat) (D:Plan) (L:ByteArray→Int→Option ByteArray) (E:ByteArray) (A:Int):Option ByteArray:=bif A<D.fV.length then AA (ix D.fV A) λJ=>AA (ix D.fE A) λD=>AA (LA fu J D) λD=>AA (NY E D) λD=>AA (NY D ⟨#[10]⟩) λD=>L D (AK (A+1)) else some E
def GD (fu:Nat) (A:Plan):Nat→ByteArray→Int→Option ByteArray|0=>λ_ _=>none|n+1=>Pd fu A (GD fu A n)
def MM fu A:=AA (IU fu A) λD=>bif !D then some ⟨#[]⟩ else GD fu A fu ⟨#[]⟩ 0
def Ww fu A:=AA (N9 fu A) λD=>bif D != 0 then some (⟨#[]⟩,D) else AA (J6 fu A) λA=>AA (RC fu A.1) λA=>AA (MM fu A.1) λA=>some (A,0)
def UT (fu:Nat) (J:Cur) (L:ByteArray):Option (ByteArray×Cur):=AA (qh L) λD=>AA (AY fu J (AK (D.length+1))) λE=>AA (AY fu ⟨J.fb,E.2.fi,E.2.fh⟩ 7) λA=>bif A.1==0 then AA (RA D 0 E.1) λM=>AA (Ze M) λM=>some (M,⟨J.fb,A.2.fi,A.2.fh⟩) else bif A.1==1 then AA (RA D 0 E.1) λM=>AA (Ze M) λN=>AA (RA D E.1 D.length) λM=>AA (Ze M) λO=>AA (MO fu ⟨J.fb,A.2.fi,A.2.fh⟩ [⟨#[32]⟩,⟨#[48]⟩,⟨#[49]⟩,⟨#[120]⟩,⟨#[10]⟩,⟨#[32,51]⟩]) λM=>AA (NY N M.1) λN=>AA (NY N O) λN=>some (N,⟨J.fb,M.2.fi,M.2.fh⟩) else bif A.1==2 then bif E.1<D.length then AA (RA D 0 E.1) λM=>AA (Ze M) λM=>AA (RA D (AK (E.1+1)) D.length) λD=>AA (Ze D) λD=>AA (NY M D) λD=>some (D,⟨J.fb,A.2.fi,A.2.fh⟩) else some (L,⟨J.fb,A.2.fi,A.2.fh⟩) else some (L,⟨J.fb,A.2.fi,A.2.fh⟩)
def PE fu D:=AA (LT fu D) λA=>AA (J0 fu ⟨D,A.fi,A.fh⟩ 2) λA=>bif A.1 then AA (RQ fu ⟨D,A.2.fi,A.2.fh⟩) λE=>some E.1 else AA (RU fu ⟨D,A.2.fi,A.2.fh⟩) λA=>some A.1
def WQ (fu:Nat) (A:Carton):Option Carton:=AA (BE 8 [] A.fK) λD=>some ⟨A.f8,A.fF,D⟩
def C5 (fu:Nat) (A:Request) (E:List Carton) (D:List Spot):Option (Request×Plan):=some (A,⟨E,D⟩)
def Uy (fu:Nat) (L:List U8):Option (Request×Plan):=AA (PE fu L) λJ=>AA (RC fu J) λA=>AA (LT fu L) λD=>bif (A.1.fV.length:Int)==0 then some (J,A.1) else AA (AY fu (⟨L,D.fi,D.fh⟩:Cur) (A.1.fV.length:Int)) λD=>AA (AY fu (⟨L,D.2.fi,D.2.fh⟩:Cur) 14) λE=>bif E.1==0 then AA (ix A.1.fE D.1) λM=>AA (ix A.1.fE D.1) λ_=>C5 fu J A.1.fV (DB A.1.fE D.1 ({ M with fX:=AK (M.fX+1) })) else bif E.1==1 then AA (AY fu (⟨L,E.2.fi,E.2.fh⟩:Cur) 3) λM=>AA (ix A.1.fE D.1) λN=>C5 fu J A.1.fV (DB A.1.fE D.1 ({ N with fJ:=M.1 })) else bif E.1==2 then AA (B9 fu (⟨L,E.2.fi,E.2.fh⟩:Cur) ([7,10,11,99,-1]:List Int)) λN=>AA (ix A.1.fV D.1) λM=>C5 fu J (DB A.1.fV D.1 (⟨N.1,M.fF,M.fK⟩:Carton)) A.1.fE else bif E.1==3 then AA (ix A.1.fV D.1) λM=>AA (AY fu (⟨L,E.2.fi,E.2.fh⟩:Cur) 14) λN=>AA (BE 8 M.fK ([AK (N.1 - 1)]:List Int)) λN=>AA (ix A.1.fV D.1) λ_=>C5 fu J (DB A.1.fV D.1 (⟨M.f8,M.fF,N⟩:Carton)) A.1.fE else bif E.1==4 then AA (ix A.1.fV D.1) λM=>C5 fu J (DB A.1.fV D.1 (⟨M.f8,M.fF,[]⟩:Carton)) A.1.fE else bif E.1==5 then AA (RA A.1.fE 1 (A.1.fE.length:Int)) λM=>C5 fu J A.1.fV M else bif E.1==6 then AA (AY fu (⟨L,E.2.fi,E.2.fh⟩:Cur) 6) λN=>AA (ix A.1.fV D.1) λM=>C5 fu J (DB A.1.fV D.1 (⟨M.f8,AK (N.1 - 1),M.fK⟩:Carton)) A.1.fE else bif E.1==7 then AA (ix A.1.fV D.1) λM=>AA (WQ fu M) λM=>AA (BE 40 A.1.fV [M]) λM=>AA (BE 32 A.1.fE ([(⟨9,0,0,0⟩:Spot)]:List Spot)) λN=>C5 fu J M N else bif E.1==8 then AA (B9 fu (⟨L,E.2.fi,E.2.fh⟩:Cur) ([0,2000,2001,-1]:List Int)) λL=>AA (ix A.1.fE D.1) λE=>C5 fu J A.1.fV (DB A.1.fE D.1 ({ E with fZ:=L.1 })) else C5 fu J A.1.fV A.1.fE
def NA fu A:=AA (LT fu A) λD=>AA (J0 fu ⟨A,D.fi,D.fh⟩ 4) λD=>bif D.1 then AA (R4 fu A) λE=>AA (Ww fu E) λJ=>AA (UT fu ⟨A,D.2.fi,D.2.fh⟩ J.1) λD=>some (E,D.1) else AA (Uy fu A) λA=>AA (J7 fu A.1) λD=>AA (MM fu A.2) λA=>some (D,A)
def R3 (fu:Nat) (J:List ByteArray→Int→Int→Option (List ByteArray)) (E:Int) (A:List ByteArray) (D:Int):Option (List ByteArray):=J A D (AK (E+1))
def UB fu D N L E J A:=bif A<D.size then AA (sx D A) λM=>bif M==N then AA (tB D J A) λM=>AA (BE 16 E [M]) λM=>R3 fu L A M (AK (A+1)) else R3 fu L A E J else AA (tB D J D.size) λA=>AA (BE 16 E [A]) λA=>some A
def JF (fu:Nat) (D:ByteArray) (A:Int):Nat→List ByteArray→Int→Int→Option (List ByteArray)|0=>λ_ _ _=>none|n+1=>UB fu D A (JF fu D A n)
def Mr fu D A:=JF fu D A fu [] 0 0
def XI (fu:Nat) (A:ByteArray):Option (Int×Bool):=nT A
def A8 (fu:Nat) (n1 D A:Int):Option Bool:=bif n1≥D then some (n1≤A) else some false
def Xv (fu:Nat) (A:Int):Option ByteArray:=n2 A
def RF fu n1:=AA (Xv fu n1) λA=>some A
def VN (fu:Nat) (A:Int×Bool):Option (Int×Bool):=some (A.1,true)
def K5 fu D:=AA (XI fu D) λA=>bif A.2 then some (0,false) else AA (A8 fu A.1 0 999999) λE=>bif !E then some (0,false) else AA (RF fu A.1) λE=>bif !(E.toList==D.toList) then some (0,false) else VN fu A
def QV fu D (J:List Int→Int→Option ((List Int)×Bool)) E A:=bif A<D.length then AA (ix D A) λD=>AA (K5 fu D) λD=>bif !D.2 then some ([],false) else AA (BE 8 E [D.1]) λD=>J D (AK (A+1)) else some (E,true)
def GR (fu:Nat) (A:List ByteArray):Nat→List Int→Int→Option ((List Int)×Bool)|0=>λ_ _=>none|n+1=>QV fu A (GR fu A n)
def TY fu A:=AA (RA A 1 A.length) λA=>GR fu A fu [] 0
def B6 fu A (J:ByteArray) E:=AA (Mr fu A 32) λA=>AA (ix A 0) λD=>bif !(D.toList==J.toList) then some ([],false) else bif A.length != AK (E+1) then some ([],false) else TY fu A
def UG (fu:Nat) (A:Request) (E:ByteArray):Option (Int×Request):=bif E.toList==(⟨#[119,97,121,32,102,105,114,115,116]⟩:ByteArray).toList then some (0,(⟨0,A.fJ,A.fR,A.fT,A.fG,A.fP,A.fU⟩:Request)) else bif E.toList==(⟨#[119,97,121,32,110,101,120,116]⟩:ByteArray).toList then some (0,(⟨1,A.fJ,A.fR,A.fT,A.fG,A.fP,A.fU⟩:Request)) else AA (B6 fu E (⟨#[112,97,108,108,101,116]⟩:ByteArray) 4) λD=>bif D.2 then AA (ix D.1 0) λM=>AA (ix D.1 1) λL=>AA (ix D.1 2) λJ=>AA (ix D.1 3) λD=>some (1,(⟨A.fc,(⟨M,L,J,D⟩:Pallet),A.fR,A.fT,A.fG,A.fP,A.fU⟩:Request)) else AA (B6 fu E (⟨#[99,108,97,115,115,101,115]⟩:ByteArray) 1) λD=>bif D.2 then AA (ix D.1 0) λD=>some (2,(⟨A.fc,A.fJ,D,A.fT,A.fG,A.fP,A.fU⟩:Request)) else AA (B6 fu E (⟨#[119,105,116,104]⟩:ByteArray) 2) λD=>bif D.2 then AA (ix D.1 0) λJ=>AA (ix D.1 1) λD=>AA (BE 16 A.fT ([(⟨J,D⟩:Pair)]:List Pair)) λD=>some (3,(⟨A.fc,A.fJ,A.fR,D,A.fG,A.fP,A.fU⟩:Request)) else AA (B6 fu E (⟨#[116,121,112,101]⟩:ByteArray) 7) λD=>bif D.2 then AA (ix D.1 0) λO=>AA (ix D.1 1) λJ=>AA (ix D.1 2) λM=>AA (ix D.1 3) λN=>AA (ix D.1 4) λQ=>AA (ix D.1 5) λL=>AA (ix D.1 6) λD=>AA (BE 56 A.fG ([(⟨O,J,M,N,Q,L,D⟩:Typ)]:List Typ)) λD=>some (4,(⟨A.fc,A.fJ,A.fR,A.fT,D,A.fP,A.fU⟩:Request)) else AA (B6 fu E (⟨#[109,97,115,116,101,114]⟩:ByteArray) 1) λD=>bif D.2 then AA (ix D.1 0) λD=>some (5,(⟨A.fc,A.fJ,A.fR,A.fT,A.fG,D,A.fU⟩:Request)) else AA (B6 fu E (⟨#[105,116,101,109]⟩:ByteArray) 7) λD=>bif D.2 then AA (ix D.1 0) λJ=>AA (ix D.1 1) λE=>AA (ix D.1 2) λN=>AA (ix D.1 3) λL=>AA (ix D.1 4) λO=>AA (ix D.1 5) λM=>AA (ix D.1 6) λD=>AA (BE 56 A.fU ([(⟨J,E,N,L,O,M,D⟩:Item)]:List Item)) λD=>some (6,(⟨A.fc,A.fJ,A.fR,A.fT,A.fG,A.fP,D⟩:Request)) else some (-1,A)
def JP (fu:Nat):Option Bool:=some false
def PI fu A D:=bif D==0 then bif D==0 then some (A==AK (D - 1)) else bif D==3 then bif A==2 then some true else some (A==3) else bif D==4 then AA (A8 fu A 2 4) λE=>some E else bif D==5 then AA (A8 fu A 2 4) λE=>some E else bif D==6 then bif A==5 then some true else some (A==6) else JP fu else bif D==1 then bif D==1 then some (A==AK (D - 1)) else bif D==3 then bif A==2 then some true else some (A==3) else bif D==4 then AA (A8 fu A 2 4) λE=>some E else bif D==5 then AA (A8 fu A 2 4) λE=>some E else bif D==6 then bif A==5 then some true else some (A==6) else JP fu else bif D==2 then some (A==AK (D - 1)) else bif D==3 then bif A==2 then some true else some (A==3) else bif D==4 then AA (A8 fu A 2 4) λE=>some E else bif D==5 then AA (A8 fu A 2 4) λE=>some E else bif D==6 then bif A==5 then some true else some (A==6) else JP fu
def M6 (fu:Nat) (E A:List ByteArray) (e:Int→Int→Int→Int→Int→Int→List Pair→List Typ→Int→List Item→Int→Int→Option (Request×Int)) (V J Y U Z Q:Int) (L:List Pair) (T:List Typ) (N:Int) (M:List Item) (O D:Int):Option (Request×Int):=bif D<(A.length:Int) then AA (ix A D) λA=>AA (UG fu (⟨V,(⟨J,Y,U,Z⟩:Pallet),Q,L,T,N,M⟩:Request) A) λA=>AA (PI fu O A.1) λh=>bif !h then some ((⟨0,(⟨0,0,0,0⟩:Pallet),0,[],[],0,[]⟩:Request),D) else e A.2.fc A.2.fJ.fW A.2.fJ.fD A.2.fJ.fH A.2.fJ.fQ A.2.fR A.2.fT A.2.fG A.2.fP A.2.fU A.1 (AK (D+1)) else bif O<5 then some ((⟨0,(⟨0,0,0,0⟩:Pallet),0,[],[],0,[]⟩:Request),AK ((E.length:Int) - 1)) else AA (ix E (AK ((E.length:Int) - 1))) λA=>bif !(A.toList==(⟨#[]⟩:ByteArray).toList) then some ((⟨0,(⟨0,0,0,0⟩:Pallet),0,[],[],0,[]⟩:Request),AK ((E.length:Int) - 1)) else some ((⟨V,(⟨J,Y,U,Z⟩:Pallet),Q,L,T,N,M⟩:Request),-1)
def HD (fu:Nat) (D:List ByteArray) (A:List ByteArray):Nat→Int→Int→Int→Int→Int→Int→List Pair→List Typ→Int→List Item→Int→Int→Option (Request×Int)|0=>λ_ _ _ _ _ _ _ _ _ _ _ _=>none|n+1=>M6 fu D A (HD fu D A n)
def IA fu A:=AA (Mr fu A 10) λA=>bif AK (A.length - 1)>60 then some (⟨0,⟨0,0,0,0⟩,0,[],[],0,[]⟩,60) else AA (RA A 0 (AK (A.length - 1))) λD=>HD fu A D fu 0 0 0 0 0 0 [] [] 0 [] (-1) 0
def UA (fu:Nat) (A:Typ) (D:Int):Option Bool:=some (A.fe==D)
def D0 (fu:Nat) (D:List Typ) (E:Typ→Option Bool) (J:Int→Option Int) (A:Int):Option Int:=bif A<D.length then AA (ix D A) λD=>AA (E D) λD=>bif D then some A else J (AK (A+1)) else some (-1)
def BL (fu:Nat) (D:List Typ) (A:Typ→Option Bool):Nat→Int→Option Int|0=>λ_=>none|n+1=>D0 fu D A (BL fu D A n)
def CG fu D A:=BL fu D A fu 0
def JI fu (A:Request) D:=AA (CG fu A.fG (λE=>UA fu E D)) λD=>bif D<0 then some (⟨0,0,0,0,0,0,0⟩,false) else AA (ix A.fG D) λA=>some (A,true)
def KL fu A:=AA (JI fu A A.fP) λA=>some (A.1,A.2)
def DF fu n1:=AA (A8 fu n1 1 2000) λA=>some A
def FY fu (A:Pallet):=AA (DF fu A.fW) λD=>bif D then AA (DF fu A.fD) λD=>bif D then AA (DF fu A.fH) λD=>bif D then AA (A8 fu A.fQ 1 100000) λA=>some A else some false else some false else some false
def DZ (fu:Nat) (D:List Pair) (E:Pair→Option Bool) (J:Int→Option Int) (A:Int):Option Int:=bif A<D.length then AA (ix D A) λD=>AA (E D) λD=>bif D then some A else J (AK (A+1)) else some (-1)
def BN (fu:Nat) (D:List Pair) (A:Pair→Option Bool):Nat→Int→Option Int|0=>λ_=>none|n+1=>DZ fu D A (BN fu D A n)
def DO fu D A:=BN fu D A fu 0
def BO (fu:Nat) (A:List Pair) (D:Pair→Option Bool):Option Bool:=AA (DO fu A D) λA=>some (A≥0)
def NG fu (A:Pair):=AA (A8 fu A.fA 0 3) λD=>bif !D then some true else AA (A8 fu A.fB 0 3) λA=>some (!A)
def BH (fu:Nat) (A:List Typ) (D:Typ→Option Bool):Option Bool:=AA (CG fu A D) λA=>some (A≥0)
def Wh fu (A:Typ):=AA (A8 fu A.fe 0 999) λD=>bif D then AA (DF fu A.fW) λD=>bif D then AA (DF fu A.fH) λD=>bif D then AA (DF fu A.fD) λD=>bif D then AA (A8 fu A.ff 0 100000) λD=>bif D then AA (A8 fu A.fQ 1 100000) λD=>bif D then AA (A8 fu A.fd 0 100000) λA=>some A else some false else some false else some false else some false else some false else some false
def NO fu A:=AA (Wh fu A) λA=>some (!A)
def V8 fu (A:Item):=AA (A8 fu A.fe 0 999) λD=>bif D then AA (DF fu A.fW) λD=>bif D then AA (DF fu A.fH) λD=>bif D then AA (DF fu A.fD) λD=>bif D then AA (A8 fu A.fQ 1 100000) λD=>bif D then AA (A8 fu A.fO 0 3) λD=>bif D then AA (A8 fu A.f9 1 6) λA=>some A else some false else some false else some false else some false else some false else some false
def OR (fu:Nat) (E:Request) (L:Int→Int→Option Bool) (D A:Int):Option Bool:=bif A<E.fU.length then AA (ix E.fU A) λE=>AA (V8 fu E) λJ=>bif !J then some false else L (AK (D+E.f9)) (AK (A+1)) else some (D≤12)
def F6 (fu:Nat) (A:Request):Nat→Int→Int→Option Bool|0=>λ_ _=>none|n+1=>OR fu A (F6 fu A n)
def S8 fu A:=F6 fu A fu 0 0
def SM (fu:Nat) (A:Request):Option Bool:=AA (BO fu A.fT (λD=>NG fu D)) λD=>bif D then some false else AA (A8 fu (A.fG.length:Int) 1 5) λD=>bif !D then some false else AA (BH fu A.fG (λD=>NO fu D)) λD=>bif D then some false else AA (A8 fu A.fP 0 999) λD=>bif !D then some false else bif (A.fU.length:Int)>8 then some false else S8 fu A
def Sw (fu:Nat) (A:Request):Option Bool:=AA (A8 fu A.fc 0 1) λD=>bif !D then some false else AA (FY fu A.fJ) λD=>bif !D then some false else AA (A8 fu A.fR 1 4) λD=>bif !D then some false else bif (A.fT.length:Int)>16 then some false else SM fu A
def VA (fu:Nat) (D A:Typ):Option Bool:=some (D.fe==A.fe)
def Vt (fu:Nat) (D A:Item):Option Bool:=some (D.fe==A.fe)
def DY (fu:Nat) (D:List Item) (E:Item→Option Bool) (J:Int→Option Int) (A:Int):Option Int:=bif A<D.length then AA (ix D A) λD=>AA (E D) λD=>bif D then some A else J (AK (A+1)) else some (-1)
def BM (fu:Nat) (D:List Item) (A:Item→Option Bool):Nat→Int→Option Int|0=>λ_=>none|n+1=>DY fu D A (BM fu D A n)
def DJ fu D A:=BM fu D A fu 0
def BG (fu:Nat) (A:List Item) (D:Item→Option Bool):Option Bool:=AA (DJ fu A D) λA=>some (A≥0)
def PF (fu:Nat) (A:Pair) (D:Request):Option Bool:=bif A.fA≥D.fR then some true else some (A.fB≥D.fR)
def UU (fu:Nat) (A:Int→Option Bool) (D:Int):Option Bool:=A (AK (D+1))
def P9 (fu:Nat) (A:Request) (L:Int→Option Bool) (D:Int):Option Bool:=bif D<A.fU.length then AA (ix A.fU D) λE=>bif E.fO≥A.fR then some false else AA (RA A.fU 0 D) λJ=>AA (BG fu J (λJ=>Vt fu J E)) λE=>bif E then some false else UU fu L D else AA (KL fu A) λD=>bif D.2 then AA (BO fu A.fT (λD=>PF fu D A)) λA=>some (!A) else some false
def EP (fu:Nat) (A:Request):Nat→Int→Option Bool|0=>λ_=>none|n+1=>P9 fu A (EP fu A n)
def QF fu A (L:Int→Option Bool) D:=bif D<A.fG.length then AA (ix A.fG D) λJ=>AA (RA A.fG 0 D) λE=>AA (BH fu E (λE=>VA fu E J)) λE=>bif E then some false else L (AK (D+1)) else EP fu A fu 0
def G8 (fu:Nat) (A:Request):Nat→Int→Option Bool|0=>λ_=>none|n+1=>QF fu A (G8 fu A n)
def U2 fu A:=G8 fu A fu 0
def EW (fu:Nat) (D:List Pair) (E:Pair) (J:Int→Option Int) (A:Int):Option Int:=bif A<D.length then AA (ix D A) λD=>bif E=D then some A else J (AK (A+1)) else some (-1)
def BZ (fu:Nat) (A:List Pair) (D:Pair):Nat→Int→Option Int|0=>λ_=>none|n+1=>EW fu A D (BZ fu A D n)
def F8 fu A D:=BZ fu A D fu 0
def FG (fu:Nat) (A:List Pair) (D:Pair):Option Bool:=AA (F8 fu A D) λA=>some (A≥0)
def J1 (fu:Nat) (A:List Pair) (E D:Int):Option Bool:=AA (FG fu A ⟨E,D⟩) λA=>some A
def QE fu (L:Int→Option Bool) E J D (M:Int→Option Bool) A:=bif A<J then AA (J1 fu E D A) λJ=>AA (J1 fu E A D) λE=>bif !(J==E) then some false else M (AK (A+1)) else L (AK (D+1))
def G4 (fu:Nat) (J:Int→Option Bool) (E:List Pair) (A D:Int):Nat→Int→Option Bool|0=>λ_=>none|n+1=>QE fu J E A D (G4 fu J E A D n)
def Rp (fu:Nat) (D:List Pair) (E:Int) (L:Int→Option Bool) (A:Int):Option Bool:=bif A<E then AA (J1 fu D A A) λJ=>bif !J then some false else G4 fu L D E A fu 0 else some true
def GW (fu:Nat) (D:List Pair) (A:Int):Nat→Int→Option Bool|0=>λ_=>none|n+1=>Rp fu D A (GW fu D A n)
def Vd fu E A:=AA (A8 fu A 1 4) λD=>bif !D then some false else GW fu E A fu 0
def CL (fu:Nat) (A:List Int):Option (List Int):=aL A
def XH (fu:Nat) (M:Item) (J:Typ) (A D:List Int):Option Bool:=AA (CL fu A) λA=>AA (CL fu D) λD=>AA (ix A 0) λL=>AA (ix D 0) λE=>bif L≤E then AA (ix A 1) λE=>AA (ix D 1) λL=>bif E≤L then AA (ix A 2) λA=>AA (ix D 2) λD=>bif A≤D then some (M.fQ≤J.fQ) else some false else some false else some false
def WA fu D A:=XH fu D A [D.fW,D.fH,D.fD] [A.fW,A.fH,A.fD]
def Uq fu D A:=AA (WA fu D A) λA=>some (!A)
def UQ (fu:Nat) (A:Typ) (D:Pallet):Option Bool:=bif A.fW>D.fW then some true else bif A.fD>D.fD then some true else bif A.fH>D.fH then some true else some (AK (A.ff+A.fQ)>D.fQ)
def U3 (fu:Nat) (A:Request):Option Int:=AA (KL fu A) λE=>AA (Sw fu A) λD=>bif !D then some 2 else AA (U2 fu A) λD=>bif !D then some 3 else AA (Vd fu A.fT A.fR) λD=>bif !D then some 4 else AA (BG fu A.fU (λD=>Uq fu D E.1)) λD=>bif D then some 5 else AA (BH fu A.fG (λD=>UQ fu D A.fJ)) λA=>bif A then some 6 else some 0
def LJ (fu:Nat) (A:ByteArray):Option Int:=AA (IA fu A) λA=>bif A.2≥0 then some 1 else AA (U3 fu A.1) λA=>some A
def FZ (fu:Nat) (A:Request):Option Bool:=AA (U3 fu A) λA=>some (A==0)
def D5 (fu:Nat) (A:List Int):Option (List Int):=AA (BE 8 [] A) λA=>some A
def K2 (fu:Nat) (A:List Int):Option (List Int):=ug A
def LU fu A:=AA (D5 fu A) λA=>AA (CL fu A) λA=>AA (K2 fu A) λA=>some A
def QR (fu:Nat) (E:Request) (J:List Int→Int→Option (List Int)) (D:List Int) (A:Int):Option (List Int):=bif A<E.fU.length then AA (ix E.fU A) λE=>AA (BE 8 D [E.fO]) λE=>J E (AK (A+1)) else AA (LU fu D) λA=>some A
def I8 (fu:Nat) (A:Request):Nat→List Int→Int→Option (List Int)|0=>λ_ _=>none|n+1=>QR fu A (I8 fu A n)
def TX fu A:=AA (FZ fu A) λD=>bif !D then some [] else I8 fu A fu [] 0
def V0 (fu:Nat) (A:List Pair) (E D:Int):Option Bool:=AA (J1 fu A E D) λJ=>bif J then AA (J1 fu A D E) λA=>some A else some false
def NV (fu:Nat) (E:Int) (D:List Pair) (A:Int):Option Bool:=AA (V0 fu D A E) λA=>some (!A)
def HT (fu:Nat) (D:List Int) (E:Int→Option Bool) (J:Int→Option Int) (A:Int):Option Int:=bif A<D.length then AA (ix D A) λD=>AA (E D) λD=>bif D then some A else J (AK (A+1)) else some (-1)
def DE (fu:Nat) (D:List Int) (A:Int→Option Bool):Nat→Int→Option Int|0=>λ_=>none|n+1=>HT fu D A (DE fu D A n)
def EY fu D A:=DE fu D A fu 0
def D1 (fu:Nat) (A:List Int) (D:Int→Option Bool):Option Bool:=AA (EY fu A D) λA=>some (A≥0)
def Sg (fu:Nat) (D:List Int) (E:List Pair) (A:Int):Option Bool:=AA (D1 fu D (λD=>NV fu D E A)) λA=>some (!A)
def G3 (fu:Nat) (D:List (List Int)) (E:(List Int)→Option Bool) (J:Int→Option Int) (A:Int):Option Int:=bif A<D.length then AA (ix D A) λD=>AA (E D) λD=>bif D then some A else J (AK (A+1)) else some (-1)
def CY (fu:Nat) (D:List (List Int)) (A:(List Int)→Option Bool):Nat→Int→Option Int|0=>λ_=>none|n+1=>G3 fu D A (CY fu D A n)
def EQ fu D A:=CY fu D A fu 0
def LG (fu:Nat) (E:List (List Int)→Int→Option (List (List Int))) (D:Int) (A:List (List Int)):Option (List (List Int)):=E A (AK (D+1))
def SX fu M E L A D:=bif D<E.length then AA (ix E D) λJ=>AA (A8 fu J 0 3) λE=>bif !E then LG fu L D A else AA (EQ fu A (λE=>Sg fu E M J)) λE=>bif E<0 then AA (BE 24 A [[J]]) λM=>LG fu L D M else AA (ix A E) λM=>AA (BE 8 M [J]) λJ=>AA (ix A E) λ_=>LG fu L D (DB A E J) else some A
def GI (fu:Nat) (A:List Pair) (D:List Int):Nat→List (List Int)→Int→Option (List (List Int))|0=>λ_ _=>none|n+1=>SX fu A D (GI fu A D n)
def We fu A D:=AA (LU fu D) λD=>GI fu A D fu [] 0
def JH fu A:=AA (FZ fu A) λD=>bif !D then some [] else AA (TX fu A) λD=>AA (We fu A.fT D) λA=>some A
def bn (fu:Nat) (D A:Int):Option (Int×Int):=some (IntKind.wrap .u64 (IntKind.wrap .u64 (IntKind.wrap .u64 (Int.fdiv D (2 ^ min 32 (IntKind.bits .u64))*Int.fdiv A (2 ^ min 32 (IntKind.bits .u64)))+Int.fdiv (IntKind.wrap .u64 (IntKind.wrap .u64 (Int.fdiv D (2 ^ min 32 (IntKind.bits .u64))*IntKind.wrap .u64 (((BitVec.ofInt (IntKind.bits .u64) A &&& BitVec.ofInt (IntKind.bits .u64) 4294967295).toNat:Nat):Int))+Int.fdiv (IntKind.wrap .u64 (IntKind.wrap .u64 (((BitVec.ofInt (IntKind.bits .u64) D &&& BitVec.ofInt (IntKind.bits .u64) 4294967295).toNat:Nat):Int)*IntKind.wrap .u64 (((BitVec.ofInt (IntKind.bits .u64) A &&& BitVec.ofInt (IntKind.bits .u64) 4294967295).toNat:Nat):Int))) (2 ^ min 32 (IntKind.bits .u64)))) (2 ^ min 32 (IntKind.bits .u64)))+Int.fdiv (IntKind.wrap .u64 (IntKind.wrap .u64 (((BitVec.ofInt (IntKind.bits .u64) (IntKind.wrap .u64 (IntKind.wrap .u64 (Int.fdiv D (2 ^ min 32 (IntKind.bits .u64))*IntKind.wrap .u64 (((BitVec.ofInt (IntKind.bits .u64) A &&& BitVec.ofInt (IntKind.bits .u64) 4294967295).toNat:Nat):Int))+Int.fdiv (IntKind.wrap .u64 (IntKind.wrap .u64 (((BitVec.ofInt (IntKind.bits .u64) D &&& BitVec.ofInt (IntKind.bits .u64) 4294967295).toNat:Nat):Int)*IntKind.wrap .u64 (((BitVec.ofInt (IntKind.bits .u64) A &&& BitVec.ofInt (IntKind.bits .u64) 4294967295).toNat:Nat):Int))) (2 ^ min 32 (IntKind.bits .u64)))) &&& BitVec.ofInt (IntKind.bits .u64) 4294967295).toNat:Nat):Int)+IntKind.wrap .u64 (IntKind.wrap .u64 (((BitVec.ofInt (IntKind.bits .u64) D &&& BitVec.ofInt (IntKind.bits .u64) 4294967295).toNat:Nat):Int)*Int.fdiv A (2 ^ min 32 (IntKind.bits .u64))))) (2 ^ min 32 (IntKind.bits .u64))),IntKind.wrap .u64 (D*A))
def ak fu D A:=AA (bn fu D A) λA=>some (A.1,A.2)
def WC (fu:Nat) (J:List Int→Int→Option (List Int)) (A:List Int) (D:Int):Option (List Int):=bif D<A.length then AA (RA A D A.length) λ_=>AA (RA A 0 D) λE=>J (oY A D E) (AK (D+wC A D E)) else some A
def KB (fu:Nat):Nat→List Int→Int→Option (List Int)|0=>λ_ _=>none|n+1=>WC fu (KB fu n)
def CF fu D (A:Int×Int):=AA (mk 8 (0:Int) (AK A.2)) λA=>KB fu fu (oY A 0 D) (wC A 0 D)
def KF fu D A:=AA (ak fu (IntKind.wrap .u64 D.length) (IntKind.wrap .u64 A)) λA=>bif A.1>0 then none else bif A.2>9223372036854775807 then none else CF fu D A
def I7 fu D A:=bif A<0 then none else KF fu D A
def Uc (fu:Nat) (E:Request) (J:List Int→Int→Option (List Int)) (D:List Int) (A:Int):Option (List Int):=bif A<E.fU.length then AA (ix E.fU A) λE=>AA (I7 fu [A] E.f9) λE=>AA (BE 8 D E) λE=>J E (AK (A+1)) else some D
def KH (fu:Nat) (A:Request):Nat→List Int→Int→Option (List Int)|0=>λ_ _=>none|n+1=>Uc fu A (KH fu A n)
def Mb fu A:=AA (FZ fu A) λD=>bif !D then some [] else KH fu A fu [] 0
def JV (fu:Nat) (D:List Int) (E:Int) (J:Int→Option Int) (A:Int):Option Int:=bif A<D.length then AA (ix D A) λD=>bif E==D then some A else J (AK (A+1)) else some (-1)
def D3 (fu:Nat) (A:List Int) (D:Int):Nat→Int→Option Int|0=>λ_=>none|n+1=>JV fu A D (D3 fu A D n)
def LZ fu A D:=D3 fu A D fu 0
def FH (fu:Nat) (A:List Int) (D:Int):Option Bool:=AA (LZ fu A D) λA=>some (A≥0)
def NS (fu:Nat) (E:List Int→Int→Option (List Int)) (D:Int) (A:List Int):Option (List Int):=E A (AK (D+1))
def Ro fu (L:Request) M N E J D A:=bif A<E.length then AA (ix E A) λE=>AA (ix N M) λM=>AA (ix L.fU E) λE=>AA (FH fu M E.fO) λE=>bif E then AA (BE 8 D [A]) λE=>NS fu J A E else NS fu J A D else some D
def HB (fu:Nat) (D:Request) (A:Int) (E:List (List Int)) (J:List Int):Nat→List Int→Int→Option (List Int)|0=>λ_ _=>none|n+1=>Ro fu D A E J (HB fu D A E J n)
def T8 fu A E:=AA (JH fu A) λD=>AA (A8 fu E 0 (AK (D.length - 1))) λJ=>bif !J then some [] else AA (Mb fu A) λJ=>HB fu A E D J fu [] 0
def VS fu A D:=AA (A8 fu A 0 (AK (D - 1))) λA=>some (!A)
def FE (fu:Nat) (J:List Int→Int→Int→Option (List Int)) (D:Int) (E:List Int) (A:Int):Option (List Int):=J E A (AK (D+1))
def G5 fu (M:Int→Option Bool) L A D E:=bif E<A.length then AA (ix A E) λJ=>AA (M J) λM=>bif !M then AA (ix A D) λ_=>FE fu L E (DB A D J) (AK (D+1)) else FE fu L E A D else AA (RA A D A.length) λ_=>AA (RA (ZU A D) 0 D) λA=>some A
def CB (fu:Nat) (A:Int→Option Bool):Nat→List Int→Int→Int→Option (List Int)|0=>λ_ _ _=>none|n+1=>G5 fu A (CB fu A n)
def GM fu A E:=AA (EY fu A E) λD=>bif D==(-1) then some A else CB fu E fu A D (AK (D+1))
def Lt fu A D:=AA (Mb fu A) λA=>AA (D5 fu D) λD=>AA (GM fu D (λD=>VS fu D A.length)) λA=>some A
def ND (fu:Nat) (E:List Item→Int→Option (List Item)) (D:Int) (A:List Item):Option (List Item):=E A (AK (D+1))
def Rn fu (M:Request) E J L D A:=bif A<E.length then AA (ix E A) λE=>AA (A8 fu E 0 (AK (J.length - 1))) λN=>bif N then AA (ix J E) λE=>AA (ix M.fU E) λE=>AA (BE 56 D [E]) λE=>ND fu L A E else ND fu L A D else some D
def GS (fu:Nat) (D:Request) (A:List Int) (E:List Int):Nat→List Item→Int→Option (List Item)|0=>λ_ _=>none|n+1=>Rn fu D A E (GS fu D A E n)
def KA fu A E:=AA (Mb fu A) λD=>GS fu A E D fu [] 0
def VJ (fu:Nat) (E A D:Int):Option Int:=some (AK (AK (E*A)*D))
def RJ fu D A E:=AA (A8 fu D 0 2000) λJ=>bif !J then some 0 else AA (A8 fu A 0 2000) λJ=>bif !J then some 0 else AA (A8 fu E 0 2000) λJ=>bif !J then some 0 else VJ fu D A E
def OY (fu:Nat) (A:List Item) (J:Int→Int→Option Int) (E D:Int):Option Int:=bif D<A.length then AA (ix A D) λA=>AA (RJ fu A.fW A.fH A.fD) λA=>J (AK (E+A)) (AK (D+1)) else some E
def H8 (fu:Nat) (A:List Item):Nat→Int→Int→Option Int|0=>λ_ _=>none|n+1=>OY fu A (H8 fu A n)
def MD fu A D:=AA (KA fu A D) λA=>H8 fu A fu 0 0
def TG (fu:Nat) (E:List Item) (J:Int→Int→Option Int) (D A:Int):Option Int:=bif A<E.length then AA (ix E A) λE=>J (AK (D+E.fQ)) (AK (A+1)) else some D
def Kd (fu:Nat) (A:List Item):Nat→Int→Int→Option Int|0=>λ_ _=>none|n+1=>TG fu A (Kd fu A n)
def RL fu A D:=AA (KA fu A D) λA=>Kd fu A fu 0 0
def RR (fu:Nat) (D:Request) (E:List Int) (A:Typ):Option Bool:=AA (MD fu D E) λL=>AA (RJ fu A.fW A.fH A.fD) λJ=>bif L≤J then AA (RL fu D E) λD=>some (D≤A.fQ) else some false
def Wm fu A D L:=AA (KL fu A) λJ=>AA (FZ fu A) λE=>bif E then AA (D5 fu D) λD=>AA (BE 8 D [L]) λD=>AA (RR fu A D J.1) λA=>some A else some false
def KS (fu:Nat) (E:List (List Int)→Int→Option (List (List Int))) (A:Int) (D:List (List Int)):Option (List (List Int)):=E D (AK (A+1))
def Q9 fu M E J A D:=bif D<E.length then AA (ix E D) λE=>bif AK (A.length - 1)≥0 then AA (ix A (AK (A.length - 1))) λL=>AA (Wm fu M L E) λM=>bif M then AA (ix A (AK (A.length - 1))) λ_=>AA (BE 8 L [E]) λL=>AA (ix A (AK (A.length - 1))) λ_=>KS fu J D (DB A (AK (A.length - 1)) L) else AA (BE 24 A [[E]]) λL=>KS fu J D L else AA (BE 24 A [[E]]) λE=>KS fu J D E else some A
def FT (fu:Nat) (A:Request) (D:List Int):Nat→List (List Int)→Int→Option (List (List Int))|0=>λ_ _=>none|n+1=>Q9 fu A D (FT fu A D n)
def Ud fu A D:=AA (Lt fu A D) λD=>FT fu A D fu [] 0
def SS (fu:Nat) (n1:Int) (J:List Int→Int→Option (List Int)) (D:List Int) (A:Int):Option (List Int):=bif A<n1 then AA (BE 8 D [A]) λE=>J E (AK (A+1)) else some D
def J8 (fu:Nat) (n1:Int):Nat→List Int→Int→Option (List Int)|0=>λ_ _=>none|n+1=>SS fu n1 (J8 fu n1 n)
def RG fu n1:=J8 fu n1 fu [] 0
def U5 (fu:Nat) (A D:Int):Option Int:=bif A<D then some (-1) else bif A>D then some 1 else some 0
def G6 fu E D A:=AA (ix A D) λD=>AA (ix A E) λA=>AA (U5 fu D A) λA=>some A
def FL (fu:Nat) (L:List Int→Int→Option (List Int)) (D:List Int) (A:Int):Option (List Int):=AA (ix D (AK (A - 1))) λE=>AA (ix D A) λJ=>AA (ix D A) λ_=>AA (ix (DB D A E) (AK (A - 1))) λ_=>L (DB (DB D A E) (AK (A - 1)) J) (AK (A - 1))
def EZ fu (E:List Int→Int→Option (List Int)) M (L:Int→Int→Option Int) J N A D:=bif D>M then AA (ix A D) λM=>AA (ix A (AK (D - 1))) λO=>AA (L M O) λL=>bif L<0 then FL fu N A D else E A (AK (J+1)) else E A (AK (J+1))
def BP (fu:Nat) (A:List Int→Int→Option (List Int)) (J:Int) (E:Int→Int→Option Int) (D:Int):Nat→List Int→Int→Option (List Int)|0=>λ_ _=>none|n+1=>EZ fu A J E D (BP fu A J E D n)
def DL fu M J L E D A:=bif A<J then BP fu E M L A fu D A else some D
def A7 (fu:Nat) (E A:Int) (D:Int→Int→Option Int):Nat→List Int→Int→Option (List Int)|0=>λ_ _=>none|n+1=>DL fu E A D (A7 fu E A D n)
def DG fu D A E J:=A7 fu A E J fu D (AK (A+1))
def JO (fu:Nat) (A:List Int) (A A A:Int) (A:Int→Int→Option Int):Option (List Int):=none
def I0 (fu:Nat) (D:List Int→Int→Option (List Int)) (E:Int) (A:List Int):Option (List Int):=D A (AK (E*2))
def Vl fu N L M A (O:List Int→Int→Int→Option (List Int)) J D E:=bif E≤L then AA (JO fu J D (AK (D+A)) E M) λQ=>O Q E (AK (E+AK (2*A))) else bif AK (D+A)<L then AA (JO fu J D (AK (D+A)) L M) λD=>I0 fu N A D else I0 fu N A J
def I2 (fu:Nat) (E:List Int→Int→Option (List Int)) (J:Int) (D:Int→Int→Option Int) (A:Int):Nat→List Int→Int→Int→Option (List Int)|0=>λ_ _ _=>none|n+1=>Vl fu E J D A (I2 fu E J D A n)
def K7 fu E J L D A:=bif A<E then I2 fu L E J A fu D 0 (AK (2*A)) else some D
def DD (fu:Nat) (A:Int) (D:Int→Int→Option Int):Nat→List Int→Int→Option (List Int)|0=>λ_ _=>none|n+1=>K7 fu A D (DD fu A D n)
def K8 fu E D (N:List Int→Int→Int→Option (List Int)) L J A:=bif A≤E then AA (DG fu L J A D) λM=>N M A (AK (A+20)) else AA (DG fu L J E D) λA=>DD fu E D fu A 20
def FN (fu:Nat) (A:Int) (D:Int→Int→Option Int):Nat→List Int→Int→Int→Option (List Int)|0=>λ_ _ _=>none|n+1=>K8 fu A D (FN fu A D n)
def Kt fu E A D:=FN fu A D fu E 0 20
def HU fu A D:=AA (Kt fu A A.length D) λA=>some A
def JG fu A:=AA (RG fu A.length) λD=>AA (HU fu D (λE D=>G6 fu E D A)) λA=>some A
def NF fu E D A:=AA (Wm fu D E A) λA=>some A
def LV (fu:Nat) (A:List (List Int)→Int→Option (List (List Int))) (E:Int) (D:List (List Int)):Option (List (List Int)):=A D (AK (E+1))
def Om fu M J E L A D:=bif D<E.length then AA (ix E D) λE=>AA (ix J E) λJ=>AA (EQ fu A (λE=>NF fu E M J)) λE=>bif E<0 then AA (BE 24 A [[J]]) λM=>LV fu L D M else AA (ix A E) λM=>AA (BE 8 M [J]) λJ=>AA (ix A E) λ_=>LV fu L D (DB A E J) else some A
def DP (fu:Nat) (D:Request) (A E:List Int):Nat→List (List Int)→Int→Option (List (List Int))|0=>λ_ _=>none|n+1=>Om fu D A E (DP fu D A E n)
def O8 fu J D (M:List Int→Int→Option (List (List Int))) E A:=bif A<D.length then AA (ix D A) λL=>AA (MD fu J [L]) λL=>AA (BE 8 E [L]) λL=>M L (AK (A+1)) else AA (JG fu E) λA=>DP fu J D A fu [] 0
def IB (fu:Nat) (A:Request) (D:List Int):Nat→List Int→Int→Option (List (List Int))|0=>λ_ _=>none|n+1=>O8 fu A D (IB fu A D n)
def RX fu A D:=AA (Lt fu A D) λD=>IB fu A D fu [] 0
def T9 fu A D:=bif A.fc==1 then AA (Ud fu A D) λE=>some E else AA (RX fu A D) λA=>some A
def Xt fu D A:=AA (WA fu D A) λA=>some (!A)
def WB (fu:Nat) (D:Request) (E:List Int) (A:Typ):Option Bool:=AA (KA fu D E) λJ=>AA (BG fu J (λJ=>Xt fu J A)) λJ=>bif !J then AA (RR fu D E A) λA=>some A else some false
def UJ (fu:Nat) (A:Request) (D:List Int) (J:Typ):Option Bool:=AA (FZ fu A) λE=>bif !E then some false else AA (Lt fu A D) λE=>bif (E.length:Int) != (D.length:Int) then some false else WB fu A D J
def E4 (fu:Nat) (J:Typ→Bool→Int→Option (Typ×Bool)) (A:Int) (D:Typ) (E:Bool):Option (Typ×Bool):=J D E (AK (A+1))
def Pa fu M N J D L A:=bif A<M.fG.length then AA (ix M.fG A) λE=>AA (UJ fu M N E) λM=>bif !M then E4 fu J A D L else bif !L then E4 fu J A E true else bif E.fd<D.fd then E4 fu J A E true else bif E.fd==D.fd then bif E.fe<D.fe then E4 fu J A E true else E4 fu J A D L else E4 fu J A D L else some (D,L)
def F5 (fu:Nat) (A:Request) (D:List Int):Nat→Typ→Bool→Int→Option (Typ×Bool)|0=>λ_ _ _=>none|n+1=>Pa fu A D (F5 fu A D n)
def MA fu A D:=F5 fu A D fu ⟨0,0,0,0,0,0,0⟩ false 0
def MS fu (M:List Carton→Int→Option (List Carton)) L E J (N:List Carton→Int→Option (List Carton)) D A:=bif A<J.length then AA (ix J A) λJ=>AA (MA fu L J) λL=>AA (CL fu J) λJ=>AA (BE 40 D [⟨L.1.fe,E,J⟩]) λJ=>N J (AK (A+1)) else M D (AK (E+1))
def HE (fu:Nat) (J:List Carton→Int→Option (List Carton)) (D:Request) (E:Int) (A:List (List Int)):Nat→List Carton→Int→Option (List Carton)|0=>λ_ _=>none|n+1=>MS fu J D E A (HE fu J D E A n)
def MW (fu:Nat) (A:Request) (J:List (List Int)) (L:List Carton→Int→Option (List Carton)) (E:List Carton) (D:Int):Option (List Carton):=bif D<J.length then AA (T8 fu A D) λJ=>AA (T9 fu A J) λJ=>HE fu L A D J fu E 0 else some E
def DU (fu:Nat) (A:Request) (D:List (List Int)):Nat→List Carton→Int→Option (List Carton)|0=>λ_ _=>none|n+1=>MW fu A D (DU fu A D n)
def PO fu A:=AA (JH fu A) λD=>DU fu A D fu [] 0
def WW fu D (E:Carton) (A:Typ×Bool):=AA (RL fu D E.fK) λD=>some (AK (A.1.ff+D))
def UY fu A E:=AA (JI fu A E.f8) λD=>bif !D.2 then some 0 else AA (FZ fu A) λJ=>bif !J then some 0 else WW fu A E D
def WS (fu:Nat) (D:Request) (E:Carton) (A:Typ×Bool):Option Box:=AA (UY fu D E) λD=>some ⟨A.1.fW,A.1.fD,A.1.fH,D⟩
def U1 fu A E:=AA (JI fu A E.f8) λD=>bif !D.2 then some ⟨0,0,0,0⟩ else AA (FZ fu A) λJ=>bif !J then some ⟨0,0,0,0⟩ else WS fu A E D
def PN fu (A:Box) (D:Pallet):=AA (A8 fu A.fW 1 D.fW) λE=>bif !E then some true else AA (A8 fu A.fD 1 D.fD) λE=>bif !E then some true else AA (A8 fu A.fH 1 D.fH) λE=>bif !E then some true else AA (A8 fu A.fQ 1 D.fQ) λA=>some (!A)
def EB (fu:Nat) (D:List Box) (E:Box→Option Bool) (J:Int→Option Int) (A:Int):Option Int:=bif A<D.length then AA (ix D A) λD=>AA (E D) λD=>bif D then some A else J (AK (A+1)) else some (-1)
def BJ (fu:Nat) (D:List Box) (A:Box→Option Bool):Nat→Int→Option Int|0=>λ_=>none|n+1=>EB fu D A (BJ fu D A n)
def FJ fu D A:=BJ fu D A fu 0
def DI (fu:Nat) (A:List Box) (D:Box→Option Bool):Option Bool:=AA (FJ fu A D) λA=>some (A≥0)
def OG (fu:Nat) (A:Pallet) (D:List Box):Option Bool:=AA (FY fu A) λE=>bif E then AA (DI fu D (λD=>PN fu D A)) λA=>some (!A) else some false
def UD (fu:Nat) (D:List Shelf→Int→Option (List Shelf)) (E:Int) (A:List Shelf):Option (List Shelf):=D A (AK (E+1))
def EO (fu:Nat) (O:List Shelf→Int→Option (List Shelf)) (N A:Int) (E:Box) (M:List Shelf) (J:Int):Option (List Shelf):=AA (ix M J) λD=>AA (BE 8 D.f7 ([A]:List Int)) λL=>AA (some (⟨(⟨L,D.fW,D.fD,D.fH,D.fQ⟩:Shelf).f7,AK (((⟨L,D.fW,D.fD,D.fH,D.fQ⟩:Shelf).fW)+E.fW),(⟨L,D.fW,D.fD,D.fH,D.fQ⟩:Shelf).fD,(⟨L,D.fW,D.fD,D.fH,D.fQ⟩:Shelf).fH,(⟨L,D.fW,D.fD,D.fH,D.fQ⟩:Shelf).fQ⟩:Shelf)) λA=>AA (some (DB (DB M J (⟨L,D.fW,D.fD,D.fH,D.fQ⟩:Shelf)) J A)) λL=>AA (some (⟨(⟨A.f7,A.fW,if E.fD>A.fD then E.fD else A.fD,A.fH,A.fQ⟩:Shelf).f7,(⟨A.f7,A.fW,if E.fD>A.fD then E.fD else A.fD,A.fH,A.fQ⟩:Shelf).fW,(⟨A.f7,A.fW,if E.fD>A.fD then E.fD else A.fD,A.fH,A.fQ⟩:Shelf).fD,if E.fH>((⟨A.f7,A.fW,if E.fD>A.fD then E.fD else A.fD,A.fH,A.fQ⟩:Shelf).fH) then E.fH else (⟨A.f7,A.fW,if E.fD>A.fD then E.fD else A.fD,A.fH,A.fQ⟩:Shelf).fH,(⟨A.f7,A.fW,if E.fD>A.fD then E.fD else A.fD,A.fH,A.fQ⟩:Shelf).fQ⟩:Shelf)) λD=>AA (some (DB (DB L J (⟨A.f7,A.fW,if E.fD>A.fD then E.fD else A.fD,A.fH,A.fQ⟩:Shelf)) J D)) λA=>UD fu O N (DB A J (⟨D.f7,D.fW,D.fD,D.fH,AK (D.fQ+E.fQ)⟩:Shelf))
def Q2 fu (N:Pallet) M D L A E:=bif E<D.length then AA (ix D E) λJ=>AA (ix M J) λD=>bif AK (A.length - 1)<0 then AA (BE 56 A [⟨[],0,0,0,0⟩]) λM=>EO fu L E J D M (AK (AK (A.length - 1)+1)) else AA (ix A (AK (A.length - 1))) λM=>bif AK (M.fW+D.fW)>N.fW then AA (BE 56 A [⟨[],0,0,0,0⟩]) λO=>EO fu L E J D O (AK (AK (A.length - 1)+1)) else AA (ix A (AK (A.length - 1))) λ_=>bif AK (M.fQ+D.fQ)>N.fQ then AA (BE 56 A [⟨[],0,0,0,0⟩]) λM=>EO fu L E J D M (AK (AK (A.length - 1)+1)) else EO fu L E J D A (AK (A.length - 1)) else some A
def CK (fu:Nat) (E:Pallet) (D:List Box) (A:List Int):Nat→List Shelf→Int→Option (List Shelf)|0=>λ_ _=>none|n+1=>Q2 fu E D A (CK fu E D A n)
def QS fu L D (M:List Int→Int→Option (List Shelf)) E A:=bif A<D.length then AA (ix D A) λJ=>AA (BE 8 E [J.fD]) λJ=>M J (AK (A+1)) else AA (JG fu E) λA=>CK fu L D A fu [] 0
def I5 (fu:Nat) (D:Pallet) (A:List Box):Nat→List Int→Int→Option (List Shelf)|0=>λ_ _=>none|n+1=>QS fu D A (I5 fu D A n)
def UE fu D A:=AA (OG fu D A) λE=>bif !E then some [] else I5 fu D A fu [] 0
def TF fu (A:Shelf) (D:Pallet):=AA (A8 fu A.fD 1 D.fD) λE=>bif !E then some true else AA (A8 fu A.fH 1 D.fH) λE=>bif !E then some true else AA (A8 fu A.fQ 1 D.fQ) λA=>some (!A)
def DS (fu:Nat) (D:List Shelf) (E:Shelf→Option Bool) (J:Int→Option Int) (A:Int):Option Int:=bif A<D.length then AA (ix D A) λD=>AA (E D) λD=>bif D then some A else J (AK (A+1)) else some (-1)
def BB (fu:Nat) (D:List Shelf) (A:Shelf→Option Bool):Nat→Int→Option Int|0=>λ_=>none|n+1=>DS fu D A (BB fu D A n)
def EH fu D A:=BB fu D A fu 0
def CQ (fu:Nat) (A:List Shelf) (D:Shelf→Option Bool):Option Bool:=AA (EH fu A D) λA=>some (A≥0)
def PJ (fu:Nat) (A:Pallet) (D:List Shelf):Option Bool:=AA (FY fu A) λE=>bif E then AA (CQ fu D (λD=>TF fu D A)) λA=>some (!A) else some false
def S7 (fu:Nat) (A:List Layer→Int→Option (List Layer)) (D:Int) (E:List Layer):Option (List Layer):=A E (AK (D+1))
def D6 (fu:Nat) (O:List Layer→Int→Option (List Layer)) (N:Int) (E:Shelf) (M:List Layer) (J:Int):Option (List Layer):=AA (ix M J) λD=>AA (BE 8 D.fM ([N]:List Int)) λL=>AA (some (⟨(⟨L,D.fD,D.fH,D.fQ⟩:Layer).fM,AK (((⟨L,D.fD,D.fH,D.fQ⟩:Layer).fD)+E.fD),(⟨L,D.fD,D.fH,D.fQ⟩:Layer).fH,(⟨L,D.fD,D.fH,D.fQ⟩:Layer).fQ⟩:Layer)) λA=>AA (some (DB (DB M J (⟨L,D.fD,D.fH,D.fQ⟩:Layer)) J A)) λD=>AA (some (⟨(⟨A.fM,A.fD,if E.fH>A.fH then E.fH else A.fH,A.fQ⟩:Layer).fM,(⟨A.fM,A.fD,if E.fH>A.fH then E.fH else A.fH,A.fQ⟩:Layer).fD,(⟨A.fM,A.fD,if E.fH>A.fH then E.fH else A.fH,A.fQ⟩:Layer).fH,AK (((⟨A.fM,A.fD,if E.fH>A.fH then E.fH else A.fH,A.fQ⟩:Layer).fQ)+E.fQ)⟩:Layer)) λL=>AA (some (DB (DB D J (⟨A.fM,A.fD,if E.fH>A.fH then E.fH else A.fH,A.fQ⟩:Layer)) J L)) λA=>S7 fu O N A
def N5 fu (M:Pallet) D J A E:=bif E<D.length then AA (ix D E) λD=>bif AK (A.length - 1)<0 then AA (BE 48 A [⟨[],0,0,0⟩]) λL=>D6 fu J E D L (AK (AK (A.length - 1)+1)) else AA (ix A (AK (A.length - 1))) λL=>bif AK (L.fD+D.fD)>M.fD then AA (BE 48 A [⟨[],0,0,0⟩]) λN=>D6 fu J E D N (AK (AK (A.length - 1)+1)) else AA (ix A (AK (A.length - 1))) λ_=>bif AK (L.fQ+D.fQ)>M.fQ then AA (BE 48 A [⟨[],0,0,0⟩]) λL=>D6 fu J E D L (AK (AK (A.length - 1)+1)) else D6 fu J E D A (AK (A.length - 1)) else some A
def CN (fu:Nat) (D:Pallet) (A:List Shelf):Nat→List Layer→Int→Option (List Layer)|0=>λ_ _=>none|n+1=>N5 fu D A (CN fu D A n)
def RY fu D A:=AA (PJ fu D A) λE=>bif !E then some [] else CN fu D A fu [] 0
def U7 fu (D:Layer) (A:Pallet):=AA (A8 fu D.fD 1 A.fD) λE=>bif !E then some true else AA (A8 fu D.fH 1 A.fH) λE=>bif !E then some true else AA (A8 fu D.fQ 1 A.fQ) λA=>some (!A)
def DT (fu:Nat) (D:List Layer) (E:Layer→Option Bool) (J:Int→Option Int) (A:Int):Option Int:=bif A<D.length then AA (ix D A) λD=>AA (E D) λD=>bif D then some A else J (AK (A+1)) else some (-1)
def BC (fu:Nat) (D:List Layer) (A:Layer→Option Bool):Nat→Int→Option Int|0=>λ_=>none|n+1=>DT fu D A (BC fu D A n)
def EI fu D A:=BC fu D A fu 0
def CR (fu:Nat) (A:List Layer) (D:Layer→Option Bool):Option Bool:=AA (EI fu A D) λA=>some (A≥0)
def SB (fu:Nat) (A:Pallet) (D:List Layer):Option Bool:=AA (FY fu A) λE=>bif E then AA (CR fu D (λD=>U7 fu D A)) λA=>some (!A) else some false
def Ug (fu:Nat) (A:List Load→Int→Option (List Load)) (D:Int) (E:List Load):Option (List Load):=A E (AK (D+1))
def ES (fu:Nat) (O:List Load→Int→Option (List Load)) (L:Int) (M:Layer) (N:List Load) (E:Int):Option (List Load):=AA (ix N E) λA=>AA (BE 8 A.f0 ([L]:List Int)) λJ=>AA (some (⟨(⟨J,A.fH,A.fQ⟩:Load).f0,AK (((⟨J,A.fH,A.fQ⟩:Load).fH)+M.fH),(⟨J,A.fH,A.fQ⟩:Load).fQ⟩:Load)) λD=>AA (some (DB (DB N E (⟨J,A.fH,A.fQ⟩:Load)) E D)) λA=>Ug fu O L (DB A E (⟨D.f0,D.fH,AK (D.fQ+M.fQ)⟩:Load))
def Rq fu (M:Pallet) D J A E:=bif E<D.length then AA (ix D E) λD=>bif AK (A.length - 1)<0 then AA (BE 40 A [⟨[],0,0⟩]) λL=>ES fu J E D L (AK (AK (A.length - 1)+1)) else AA (ix A (AK (A.length - 1))) λL=>bif AK (L.fH+D.fH)>M.fH then AA (BE 40 A [⟨[],0,0⟩]) λN=>ES fu J E D N (AK (AK (A.length - 1)+1)) else AA (ix A (AK (A.length - 1))) λ_=>bif AK (L.fQ+D.fQ)>M.fQ then AA (BE 40 A [⟨[],0,0⟩]) λL=>ES fu J E D L (AK (AK (A.length - 1)+1)) else ES fu J E D A (AK (A.length - 1)) else some A
def C3 (fu:Nat) (D:Pallet) (A:List Layer):Nat→List Load→Int→Option (List Load)|0=>λ_ _=>none|n+1=>Rq fu D A (C3 fu D A n)
def TQ fu D A:=AA (SB fu D A) λE=>bif !E then some [] else C3 fu D A fu [] 0
def P7 (fu:Nat) (Y:List Spot→Int→Int→Option (List Spot)) (V:List Box) (M:List Shelf) (N T J Q O:Int) (A:Shelf) (U:List Spot→Int→Int→Option (List Spot)) (E:List Spot) (L D:Int):Option (List Spot):=bif D<A.f7.length then AA (ix A.f7 D) λA=>AA (ix E A) λ_=>AA (ix V A) λV=>U (DB E A ⟨N,L,J,T⟩) (AK (L+V.fW)) (AK (D+1)) else AA (ix M O) λA=>Y E (AK (J+A.fD)) (AK (Q+1))
def JC (fu:Nat) (E:List Spot→Int→Int→Option (List Spot)) (A:List Box) (D:List Shelf) (N O Q L J:Int) (M:Shelf):Nat→List Spot→Int→Int→Option (List Spot)|0=>λ_ _ _=>none|n+1=>P7 fu E A D N O Q L J M (JC fu E A D N O Q L J M n)
def Q7 (fu:Nat) (Y:List Spot→Int→Int→Option (List Spot)) (V:List Box) (D:List Shelf) (N:List Layer) (M L T U:Int) (J:Layer) (Z:List Spot→Int→Int→Option (List Spot)) (E:List Spot) (Q A:Int):Option (List Spot):=bif A<J.fM.length then AA (ix J.fM A) λJ=>AA (ix D J) λO=>JC fu Z V D M L Q A J O fu E 0 0 else AA (ix N U) λA=>Y E (AK (L+A.fH)) (AK (T+1))
def EK (fu:Nat) (N:List Spot→Int→Int→Option (List Spot)) (E:List Box) (A:List Shelf) (M:List Layer) (Q O D L:Int) (J:Layer):Nat→List Spot→Int→Int→Option (List Spot)|0=>λ_ _ _=>none|n+1=>Q7 fu N E A M Q O D L J (EK fu N E A M Q O D L J n)
def Rg (fu:Nat) (U:List Spot→Int→Option (List Spot)) (Q:List Box) (T:List Shelf) (J:List Layer) (D:Int) (L:Load) (N:List Spot→Int→Int→Option (List Spot)) (E:List Spot) (O A:Int):Option (List Spot):=bif A<L.f0.length then AA (ix L.f0 A) λL=>AA (ix J L) λM=>EK fu N Q T J D O A L M fu E 0 0 else U E (AK (D+1))
def C6 (fu:Nat) (M:List Spot→Int→Option (List Spot)) (E:List Box) (A:List Shelf) (D:List Layer) (L:Int) (J:Load):Nat→List Spot→Int→Int→Option (List Spot)|0=>λ_ _ _=>none|n+1=>Rg fu M E A D L J (C6 fu M E A D L J n)
def P2 fu J M L D N E A:=bif A<D.length then AA (ix D A) λD=>C6 fu N J M L A D fu E 0 0 else some E
def B2 (fu:Nat) (E:List Box) (J:List Shelf) (D:List Layer) (A:List Load):Nat→List Spot→Int→Option (List Spot)|0=>λ_ _=>none|n+1=>P2 fu E J D A (B2 fu E J D A n)
def Pm fu D A:=AA (OG fu D A) λE=>bif !E then some [] else AA (UE fu D A) λE=>AA (RY fu D E) λJ=>AA (mk 32 ⟨(0:Int),(0:Int),(0:Int),(0:Int)⟩ A.length) λL=>AA (TQ fu D J) λD=>B2 fu A E J D fu L 0
def NU (fu:Nat) (E:Int→Int→Option Int) (A D:Int):Option Int:=E D (AK (A+1))
def QC (fu:Nat) (E:List Spot) (J:Int→Int→Option Int) (D A:Int):Option Int:=bif A<E.length then AA (ix E A) λE=>AA (A8 fu E.fJ 0 999999) λL=>bif L then NU fu J A (if (AK (E.fJ+1))>D then AK (E.fJ+1) else D) else NU fu J A D else some D
def GV (fu:Nat) (A:List Spot):Nat→Int→Int→Option Int|0=>λ_ _=>none|n+1=>QC fu A (GV fu A n)
def LH fu A:=GV fu A fu 0 0
def PA (fu:Nat) (E:List Box→Int→Option (Plan×Bool)) (D:Int) (A:List Box):Option (Plan×Bool):=E A (AK (D+1))
def S3 (fu:Nat) (O:List Spot→Int→Int→Option (Plan×Bool)) (J L:Int) (A:List Spot) (M:Int) (N:List Spot→Int→Option (Plan×Bool)) (E:List Spot) (D:Int):Option (Plan×Bool):=bif D<A.length then AA (ix A D) λA=>AA (BE 32 E [⟨AK (A.fJ+J),A.fX,A.fY,A.fZ⟩]) λA=>N A (AK (D+1)) else O E (AK (J+M)) (AK (L+1))
def IQ (fu:Nat) (J:List Spot→Int→Int→Option (Plan×Bool)) (L E:Int) (D:List Spot) (A:Int):Nat→List Spot→Int→Option (Plan×Bool)|0=>λ_ _=>none|n+1=>S3 fu J L E D A (IQ fu J L E D A n)
def SR fu O E M N Q J L D A:=bif A<M.length then AA (ix M A) λM=>bif M.fF==J then AA (U1 fu E M) λM=>AA (BE 32 D [M]) λM=>PA fu L A M else PA fu L A D else AA (Pm fu E.fJ D) λA=>AA (LH fu A) λD=>IQ fu O Q J A D fu N 0
def H4 (fu:Nat) (L:List Spot→Int→Int→Option (Plan×Bool)) (D:Request) (A:List Carton) (E:List Spot) (M J:Int):Nat→List Box→Int→Option (Plan×Bool)|0=>λ_ _=>none|n+1=>SR fu L D A E M J (H4 fu L D A E M J n)
def ST (fu:Nat) (J:Request) (A:List Carton) (L:List (List Int)) (N:List Spot→Int→Int→Option (Plan×Bool)) (D:List Spot) (M E:Int):Option (Plan×Bool):=bif E<L.length then H4 fu N J A D M E fu [] 0 else some (⟨A,D⟩,true)
def CZ (fu:Nat) (D:Request) (A:List Carton) (E:List (List Int)):Nat→List Spot→Int→Int→Option (Plan×Bool)|0=>λ_ _ _=>none|n+1=>ST fu D A E (CZ fu D A E n)
def Wc fu A:=AA (FZ fu A) λD=>bif !D then some (⟨[],[]⟩,false) else AA (PO fu A) λD=>AA (JH fu A) λE=>CZ fu A D E fu [] 0 0
def KT (fu:Nat) (D:Int→Option Bool) (A:Int):Option Bool:=D (AK (A+1))
def LR (fu:Nat) (D:List Int) (J:Int→Option Bool) (A:Int):Option Bool:=bif A<(D.length:Int) then AA (ix D A) λE=>AA (A8 fu E 0 999) λL=>bif !L then some false else bif A>0 then AA (ix D (AK (A - 1))) λL=>bif L≥E then some false else KT fu J A else KT fu J A else some ((D.length:Int)≤100)
def E5 (fu:Nat) (A:List Int):Nat→Int→Option Bool|0=>λ_=>none|n+1=>LR fu A (E5 fu A n)
def NM fu A:=E5 fu A fu 0
def CS fu n1:=AA (A8 fu n1 0 2000) λA=>some A
def VO (fu:Nat) (A:Int→Option Bool) (D:Int):Option Bool:=A (AK (D+1))
def SK (fu:Nat) (A:Plan) (L:Int→Option Bool) (D:Int):Option Bool:=bif D<A.fV.length then AA (ix A.fV D) λE=>AA (ix A.fE D) λA=>AA (A8 fu E.f8 0 999) λJ=>bif !J then some false else AA (A8 fu E.fF 0 3) λJ=>bif !J then some false else AA (NM fu E.fK) λE=>bif !E then some false else AA (CS fu A.fJ) λE=>bif !E then some false else AA (CS fu A.fX) λE=>bif !E then some false else AA (CS fu A.fY) λE=>bif !E then some false else AA (CS fu A.fZ) λA=>bif !A then some false else VO fu L D else some true
def IF (fu:Nat) (A:Plan):Nat→Int→Option Bool|0=>λ_=>none|n+1=>SK fu A (IF fu A n)
def VL fu A:=IF fu A fu 0
def K6 (fu:Nat) (A:Plan):Option Bool:=bif (A.fE.length:Int) != (A.fV.length:Int) then some false else bif (A.fV.length:Int)>100 then some false else VL fu A
def OM fu D (L:ByteArray→Int→Option (ByteArray×Bool)) E A:=bif A<D.length then AA (ix D A) λD=>AA (A8 fu D 0 999999) λJ=>bif !J then some (⟨#[]⟩,false) else AA (RF fu D) λD=>AA (NY ⟨#[32]⟩ D) λD=>AA (NY E D) λD=>L D (AK (A+1)) else AA (NY E ⟨#[10]⟩) λA=>some (A,true)
def GC (fu:Nat) (A:List Int):Nat→ByteArray→Int→Option (ByteArray×Bool)|0=>λ_ _=>none|n+1=>OM fu A (GC fu A n)
def MF fu A D:=GC fu D fu A 0
def OX (fu:Nat) (D:Plan) (L:ByteArray→Int→Option ByteArray) (J:ByteArray) (A:Int):Option ByteArray:=bif A<D.fV.length then AA (ix D.fV A) λE=>AA (ix D.fE A) λD=>AA (BE 8 [E.f8,E.fF,D.fJ,D.fX,D.fY,D.fZ] E.fK) λD=>AA (MF fu ⟨#[99,97,114,116,111,110]⟩ D) λD=>AA (NY J D.1) λD=>L D (AK (A+1)) else some J
def E8 (fu:Nat) (A:Plan):Nat→ByteArray→Int→Option ByteArray|0=>λ_ _=>none|n+1=>OX fu A (E8 fu A n)
def MC fu A:=AA (K6 fu A) λD=>bif !D then some ⟨#[]⟩ else E8 fu A fu ⟨#[]⟩ 0
def XU (fu:Nat) (A:ByteArray):Option (ByteArray×Int):=AA (LJ fu A) λD=>bif D != 0 then some (⟨#[]⟩,D) else AA (IA fu A) λA=>AA (Wc fu A.1) λA=>AA (MC fu A.1) λA=>some (A,0)
def VG (fu:Nat) (A:(List Int)×Bool) (E N:Int) (L:List Int):Option (Carton×Spot×Bool):=AA (ix A.1 2) λJ=>AA (ix A.1 3) λD=>AA (ix A.1 4) λM=>AA (ix A.1 5) λA=>AA (K6 fu ⟨[⟨E,N,L⟩],[⟨J,D,M,A⟩]⟩) λO=>bif !O then some (⟨0,0,[]⟩,⟨0,0,0,0⟩,false) else some (⟨E,N,L⟩,⟨J,D,M,A⟩,true)
def VW fu A:=AA (ix A.1 0) λJ=>AA (ix A.1 1) λD=>AA (RA A.1 6 A.1.length) λE=>VG fu A J D E
def Wj fu D:=AA (Mr fu D 32) λA=>AA (B6 fu D ⟨#[99,97,114,116,111,110]⟩ (AK (A.length - 1))) λD=>bif !D.2 then some (⟨0,0,[]⟩,⟨0,0,0,0⟩,false) else bif AK (A.length - 1)<6 then some (⟨0,0,[]⟩,⟨0,0,0,0⟩,false) else VW fu D
def N1 fu D (L:List Carton→List Spot→Int→Option (Plan×Bool)) J E A:=bif A<D.length then AA (ix D A) λD=>AA (Wj fu D) λD=>bif !D.2.2 then some (⟨[],[]⟩,false) else AA (BE 40 J [D.1]) λM=>AA (BE 32 E [D.2.1]) λD=>L M D (AK (A+1)) else some (⟨J,E⟩,true)
def IJ (fu:Nat) (A:List ByteArray):Nat→List Carton→List Spot→Int→Option (Plan×Bool)|0=>λ_ _ _=>none|n+1=>N1 fu A (IJ fu A n)
def Tk fu A:=AA (RA A 0 (AK (A.length - 1))) λA=>IJ fu A fu [] [] 0
def MB (fu:Nat) (A:ByteArray):Option (Plan×Bool):=AA (Mr fu A 10) λA=>AA (ix A (AK ((A.length:Int) - 1))) λD=>bif !(D.toList==(⟨#[]⟩:ByteArray).toList) then some ((⟨[],[]⟩:Plan),false) else bif AK ((A.length:Int) - 1)>100 then some ((⟨[],[]⟩:Plan),false) else Tk fu A
def DM (fu:Nat) (D:List Carton) (E:Carton→Option Bool) (J:Int→Option Int) (A:Int):Option Int:=bif A<D.length then AA (ix D A) λD=>AA (E D) λD=>bif D then some A else J (AK (A+1)) else some (-1)
def BI (fu:Nat) (D:List Carton) (A:Carton→Option Bool):Nat→Int→Option Int|0=>λ_=>none|n+1=>DM fu D A (BI fu D A n)
def CV fu D A:=BI fu D A fu 0
def CH (fu:Nat) (A:List Carton) (D:Carton→Option Bool):Option Bool:=AA (CV fu A D) λA=>some (A≥0)
def XM (fu:Nat) (A:Carton):Option Bool:=some ((A.fK.length:Int)==0)
def ON (fu:Nat) (E:Plan) (J:List Int→Int→Option (List Int)) (D:List Int) (A:Int):Option (List Int):=bif A<E.fV.length then AA (ix E.fV A) λE=>AA (BE 8 D E.fK) λE=>J E (AK (A+1)) else some D
def ID (fu:Nat) (A:Plan):Nat→List Int→Int→Option (List Int)|0=>λ_ _=>none|n+1=>ON fu A (ID fu A n)
def Ss fu A:=ID fu A fu [] 0
def JS (fu:Nat) (D E:List Int) (J:Int→Option Bool) (A:Int):Option Bool:=bif A<D.length then AA (ix D A) λD=>AA (ix E A) λE=>bif D != E then some false else J (AK (A+1)) else some true
def D4 (fu:Nat) (D A:List Int):Nat→Int→Option Bool|0=>λ_=>none|n+1=>JS fu D A (D4 fu D A n)
def JX (fu:Nat) (D A:List Int):Option Bool:=bif (D.length:Int) != (A.length:Int) then some false else D4 fu D A fu 0
def OZ fu (E:Item) (D:Carton) A:=bif D.fF≥A.length then some true else AA (ix A D.fF) λA=>AA (FH fu A E.fO) λA=>some (!A)
def M4 (fu:Nat) (D:Int→Option Int) (A:Int):Option Int:=D (AK (A+1))
def LE (fu:Nat) (E:Request) (D:Plan) (J:Int→Option Int) (A:Int):Option Int:=bif A<D.fV.length then AA (ix D.fV A) λD=>AA (MA fu E D.fK) λE=>bif E.1.fe != D.f8 then some 6 else J (AK (A+1)) else some 0
def FV (fu:Nat) (A:Request) (D:Plan):Nat→Int→Option Int|0=>λ_=>none|n+1=>LE fu A D (FV fu A D n)
def Lv fu J D L (N:Int→Option Int) A:=bif A<D.fV.length then AA (ix D.fV A) λE=>AA (KA fu J E.fK) λM=>AA (BG fu M (λM=>OZ fu M E L)) λE=>bif E then some 5 else N (AK (A+1)) else FV fu J D fu 0
def FW (fu:Nat) (A:Request) (E:Plan) (D:List (List Int)):Nat→Int→Option Int|0=>λ_=>none|n+1=>Lv fu A E D (FW fu A E D n)
def LF fu A E M D:=bif D<E.fV.length then AA (ix E.fV D) λJ=>AA (JI fu A J.f8) λL=>bif !L.2 then some 4 else AA (UJ fu A J.fK L.1) λJ=>bif !J then some 4 else M4 fu M D else AA (JH fu A) λD=>FW fu A E D fu 0
def EJ (fu:Nat) (A:Request) (D:Plan):Nat→Int→Option Int|0=>λ_=>none|n+1=>LF fu A D (EJ fu A D n)
def Me fu A D:=EJ fu A D fu 0
def VK (fu:Nat) (D:Pallet) (E:Box) (A:Spot):Option Bool:=bif AK (A.fX+E.fW)≤D.fW then bif AK (A.fY+E.fD)≤D.fD then some (AK (A.fZ+E.fH)≤D.fH) else some false else some false
def V4 fu J D A:=AA (CS fu A.fX) λE=>bif !E then some false else AA (CS fu A.fY) λE=>bif !E then some false else AA (CS fu A.fZ) λE=>bif !E then some false else AA (DF fu D.fW) λE=>bif !E then some false else AA (DF fu D.fD) λE=>bif !E then some false else AA (DF fu D.fH) λE=>bif !E then some false else VK fu J D A
def RM fu (A:Box) (D:Spot):=AA (CS fu A.fW) λE=>bif E then AA (CS fu A.fD) λE=>bif E then AA (CS fu A.fH) λA=>bif A then AA (CS fu D.fX) λA=>bif A then AA (CS fu D.fY) λA=>bif A then AA (CS fu D.fZ) λA=>some A else some false else some false else some false else some false else some false
def PU (fu:Nat) (A J D E:Int):Option Bool:=bif A<AK (D+E) then some (D<AK (A+J)) else some false
def UW fu (E:Box) (A:Spot) (J:Box) (D:Spot):=AA (PU fu A.fX E.fW D.fX J.fW) λL=>bif L then AA (PU fu A.fY E.fD D.fY J.fD) λL=>bif L then AA (PU fu A.fZ E.fH D.fZ J.fH) λA=>some A else some false else some false
def Ux fu E A J D:=AA (RM fu E A) λL=>bif !L then some false else AA (RM fu J D) λL=>bif !L then some false else bif A.fJ != D.fJ then some false else UW fu E A J D
def L8 (fu:Nat) (E:List Int→Int→Option (List Int)) (D:Int) (A:List Int):Option (List Int):=E A (AK (D+1))
def Pu (fu:Nat) (J:Plan) (L:Int) (E:List Int→Int→Option (List Int)) (D:List Int) (A:Int):Option (List Int):=bif A<J.fE.length then AA (ix J.fE A) λJ=>bif J.fJ==L then AA (BE 8 D [A]) λJ=>L8 fu E A J else L8 fu E A D else some D
def GA (fu:Nat) (D:Plan) (A:Int):Nat→List Int→Int→Option (List Int)|0=>λ_ _=>none|n+1=>Pu fu D A (GA fu D A n)
def ME (fu:Nat) (A:Plan) (D:Int):Option (List Int):=bif (A.fE.length:Int) != (A.fV.length:Int) then some ([]:List Int) else GA fu A D fu ([]:List Int) 0
def LW fu J (L:Plan) D (M:Int→Int→Option Int) E A:=bif A<D.length then AA (ix D A) λD=>AA (ix L.fV D) λD=>AA (UY fu J D) λD=>M (AK (E+D)) (AK (A+1)) else some E
def GH (fu:Nat) (A:Request) (E:Plan) (D:List Int):Nat→Int→Int→Option Int|0=>λ_ _=>none|n+1=>LW fu A E D (GH fu A E D n)
def NQ fu E A D:=AA (ME fu A D) λD=>GH fu E A D fu 0 0
def Ts (fu:Nat) (E:Int) (A:Plan) (D:List Int):Option Bool:=AA (ix A.fV E) λE=>AA (ix D 0) λD=>AA (ix A.fV D) λA=>some (E.fF != A.fF)
def Nr fu (O:Int→Option Int) (J:Plan) E A (M:Int→Option Int) D:=bif D<A then AA (ix E A) λL=>AA (ix J.fE A) λN=>AA (ix E D) λE=>AA (ix J.fE D) λJ=>AA (Ux fu L N E J) λE=>bif E then some 8 else M (AK (D+1)) else O (AK (A+1))
def HG (fu:Nat) (J:Int→Option Int) (E:Plan) (A:List Box) (D:Int):Nat→Int→Option Int|0=>λ_=>none|n+1=>Nr fu J E A D (HG fu J E A D n)
def Q6 (fu:Nat) (A:Int→Option Int) (D:Int):Option Int:=A (AK (D+1))
def QP (fu:Nat) (E:Int→Option Int) (J:Plan) (L:Int) (A:List Int):Option Int:=AA (D1 fu A (λD=>Ts fu D J A)) λA=>bif A then some 9 else Q6 fu E L
def M8 (fu:Nat) (J:Request) (D:Plan) (E:Int) (M:Int→Option Int) (A:Int):Option Int:=bif A<E then AA (ME fu D A) λE=>bif (E.length:Int)==0 then some 9 else AA (NQ fu J D A) λL=>bif L>J.fJ.fQ then some 9 else QP fu M D A E else some 0
def EE (fu:Nat) (A:Request) (E:Plan) (D:Int):Nat→Int→Option Int|0=>λ_=>none|n+1=>M8 fu A E D (EE fu A E D n)
def M7 fu J A D L E:=bif E<D.length then HG fu L A D E fu 0 else AA (LH fu A.fE) λD=>EE fu J A D fu 0
def EF (fu:Nat) (A:Request) (E:Plan) (D:List Box):Nat→Int→Option Int|0=>λ_=>none|n+1=>M7 fu A E D (EF fu A E D n)
def MX fu E D (N:List Box→Int→Option Int) J A:=bif A<D.fV.length then AA (ix D.fV A) λL=>AA (U1 fu E L) λL=>AA (ix D.fE A) λM=>AA (V4 fu E.fJ L M) λM=>bif !M then some 7 else AA (BE 32 J [L]) λL=>N L (AK (A+1)) else EF fu E D J fu 0
def HM (fu:Nat) (A:Request) (D:Plan):Nat→List Box→Int→Option Int|0=>λ_ _=>none|n+1=>MX fu A D (HM fu A D n)
def PT fu A D:=HM fu A D fu [] 0
def WU fu A D:=AA (Ss fu D) λE=>AA (CL fu E) λJ=>AA (Mb fu A) λE=>AA (RG fu E.length) λE=>AA (JX fu J E) λE=>bif !E then some 3 else AA (Me fu A D) λE=>bif E != 0 then some E else AA (PT fu A D) λA=>some A
def UH (fu:Nat) (D:Request) (A:Plan):Option Int:=AA (FZ fu D) λE=>bif !E then some 1 else AA (K6 fu A) λE=>bif !E then some 2 else AA (CH fu A.fV (λE=>XM fu E)) λE=>bif E then some 2 else WU fu D A
def RI (fu:Nat) (A E:ByteArray):Option (Int×Int):=AA (LJ fu A) λD=>bif D != 0 then some (D,1) else AA (IA fu A) λD=>AA (MB fu E) λA=>bif !A.2 then some (0,2) else AA (UH fu D.1 A.1) λA=>some (0,A)
def VC (fu:Nat) (D E:Int) (A:List Int) (L N M J:Int):Option (Carton×Spot×Bool):=some (⟨D,E,A⟩,⟨L,N,M,J⟩,true)
def PK fu (Q:ByteArray) A J D E:=AA (ix A 2) λM=>AA (ix A 3) λN=>AA (ix A 4) λL=>AA (ix A 5) λA=>AA (IU fu ⟨[⟨J,D,E⟩],[⟨M,N,L,A⟩]⟩) λO=>bif !O then some (⟨0,0,[]⟩,⟨0,0,0,0⟩,false) else AA (LA fu ⟨J,D,E⟩ ⟨M,N,L,A⟩) λO=>bif !(O.toList==Q.toList) then some (⟨0,0,[]⟩,⟨0,0,0,0⟩,false) else VC fu J D E M N L A
def SN (fu:Nat) (J:ByteArray) (E:List ByteArray) (L:List Int→Int→Option (Carton×Spot×Bool)) (A:List Int) (D:Int):Option (Carton×Spot×Bool):=bif D<(E.length:Int) then AA (ix E D) λE=>AA (MQ fu E) λE=>bif !E.2 then some ((⟨0,0,[]⟩:Carton),(⟨0,0,0,0⟩:Spot),false) else AA (BE 8 A ([E.1]:List Int)) λE=>L E (AK (D+1)) else bif (A.length:Int)<6 then some ((⟨0,0,[]⟩:Carton),(⟨0,0,0,0⟩:Spot),false) else AA (ix A 0) λD=>AA (ix A 1) λE=>AA (RA A 6 (A.length:Int)) λL=>AA (BE 8 ([]:List Int) L) λL=>PK fu J A D E L
def J5 (fu:Nat) (D:ByteArray) (A:List ByteArray):Nat→List Int→Int→Option (Carton×Spot×Bool)|0=>λ_ _=>none|n+1=>SN fu D A (J5 fu D A n)
def V5 fu A:=AA (L5 fu A 32) λD=>J5 fu A D fu [] 1
def OS (fu:Nat) (A:List ByteArray) (N:List Carton→List Spot→Int→Option (Plan×Bool)) (J:List Carton) (L:List Spot) (E:Int):Option (Plan×Bool):=bif E<AK ((A.length:Int) - 1) then AA (ix A E) λD=>AA (V5 fu D) λD=>bif !D.2.2 then some ((⟨[],[]⟩:Plan),false) else AA (BE 40 J [D.1]) λM=>AA (BE 32 L ([D.2.1]:List Spot)) λD=>N M D (AK (E+1)) else AA (ix A (AK ((A.length:Int) - 1))) λA=>bif !(A.toList==(⟨#[]⟩:ByteArray).toList) then some ((⟨[],[]⟩:Plan),false) else AA (IU fu (⟨J,L⟩:Plan)) λA=>bif !A then some ((⟨[],[]⟩:Plan),false) else some ((⟨J,L⟩:Plan),true)
def IG (fu:Nat) (A:List ByteArray):Nat→List Carton→List Spot→Int→Option (Plan×Bool)|0=>λ_ _ _=>none|n+1=>OS fu A (IG fu A n)
def SE fu A:=AA (L5 fu A 10) λA=>IG fu A fu [] [] 0
def OO (fu:Nat) (D:Plan) (E:Int→Option Bool) (A:Int):Option Bool:=bif A<(D.fV.length:Int) then AA (ix D.fV A) λD=>bif (D.fK.length:Int)==0 then some true else E (AK (A+1)) else some false
def IK (fu:Nat) (A:Plan):Nat→Int→Option Bool|0=>λ_=>none|n+1=>OO fu A (IK fu A n)
def Sq fu A:=IK fu A fu 0
def QT (fu:Nat) (E:Plan) (J:List Int→Int→Option (List Int)) (D:List Int) (A:Int):Option (List Int):=bif A<E.fV.length then AA (ix E.fV A) λE=>AA (BE 8 D E.fK) λE=>J E (AK (A+1)) else some D
def JB (fu:Nat) (A:Plan):Nat→List Int→Int→Option (List Int)|0=>λ_ _=>none|n+1=>QT fu A (JB fu A n)
def U4 fu A:=JB fu A fu [] 0
def Yx (fu:Nat) (A:Bool):Option Int:=bif A then some 1 else some 0
def QN (fu:Nat) (D:List Int) (J:Int) (L:Int→Int→Option Int) (E A:Int):Option Int:=bif A<D.length then AA (ix D A) λD=>AA (Yx fu (D==J)) λD=>L (AK (E+D)) (AK (A+1)) else some E
def I6 (fu:Nat) (A:List Int) (D:Int):Nat→Int→Int→Option Int|0=>λ_ _=>none|n+1=>QN fu A D (I6 fu A D n)
def UI fu A D:=I6 fu A D fu 0 0
def N6 (fu:Nat) (E D:List Int) (J:Int→Option Bool) (A:Int):Option Bool:=bif A<E.length then AA (UI fu D A) λD=>bif D != 1 then some false else J (AK (A+1)) else some true
def IE (fu:Nat) (A:List Int) (D:List Int):Nat→Int→Option Bool|0=>λ_=>none|n+1=>N6 fu A D (IE fu A D n)
def SF (fu:Nat) (A:List Int) (D:Plan):Option Bool:=AA (U4 fu D) λD=>bif (D.length:Int) != (A.length:Int) then some false else IE fu A D fu 0
def S2 (fu:Nat) (A:Int→Option Bool) (D:Int):Option Bool:=A (AK (D+1))
def SG fu D E (J:Plan) A M L:=bif !L then some false else AA (ix J.fV A) λJ=>AA (Uh fu E J.fK M) λE=>bif !E then some false else S2 fu D A
def N4 fu J D L A:=bif A<D.fV.length then AA (ix D.fV A) λE=>AA (KI fu J E.f8) λE=>SG fu L J D A E.1 E.2 else some true
def EX (fu:Nat) (A:Request) (D:Plan):Nat→Int→Option Bool|0=>λ_=>none|n+1=>N4 fu A D (EX fu A D n)
def R7 fu A D:=EX fu A D fu 0
def QO fu D E (J:Int→Option Int) A:=bif A<D.length then AA (ix D A) λD=>AA (PD fu D E) λD=>bif D then some A else J (AK (A+1)) else some (-1)
def Jr (fu:Nat) (D:List (List Int)) (A:Int):Nat→Int→Option Int|0=>λ_=>none|n+1=>QO fu D A (Jr fu D A n)
def T3 fu D A:=Jr fu D A fu 0
def S0 (fu:Nat) (D:Int→Option Bool) (A:Int):Option Bool:=D (AK (A+1))
def SW (fu:Nat) (A:Int→Option Bool) (D:Int):Option Bool:=A (AK (D+1))
def Ti fu J (D:Plan) A M E (L:Item):=AA (ix D.fV M) λD=>AA (T3 fu A L.fO) λA=>bif A != D.fF then some false else SW fu J E
def OL fu M L O E Q A N D:=AA (ix E.fV A) λJ=>bif D<J.fK.length then AA (ix E.fV A) λ_=>AA (ix J.fK D) λJ=>AA (K1 fu L O J) λJ=>Ti fu N E Q A D J.1 else S0 fu M A
def E2 (fu:Nat) (J:Int→Option Bool) (D:Request) (A:List Int) (M:Plan) (E:List (List Int)) (L:Int):Nat→Int→Option Bool|0=>λ_=>none|n+1=>OL fu J D A M E L (E2 fu J D A M E L n)
def Ot fu J L D M E A:=bif A<D.fV.length then E2 fu E J L D M A fu 0 else some true
def C9 (fu:Nat) (D:Request) (E:List Int) (J:Plan) (A:List (List Int)):Nat→Int→Option Bool|0=>λ_=>none|n+1=>Ot fu D E J A (C9 fu D E J A n)
def Sf fu A D J:=AA (JM fu A) λE=>C9 fu A D J E fu 0
def To (fu:Nat) (A:Int→Option Bool) (D:Int):Option Bool:=A (AK (D+1))
def SO fu D (J:Plan) A (L:Typ) E:=bif !E then some false else AA (ix J.fV A) λE=>bif L.fe != E.f8 then some false else To fu D A
def Pv fu E D J A:=bif A<D.fV.length then AA (ix D.fV A) λL=>AA (MJ fu E L.fK) λE=>SO fu J D A E.1 E.2 else some true
def E9 (fu:Nat) (A:Request) (D:Plan):Nat→Int→Option Bool|0=>λ_=>none|n+1=>Pv fu A D (E9 fu A D n)
def Sy fu A D:=E9 fu A D fu 0
def KJ fu (A:Box) (D:Spot):=AA (A2 fu A.fW 0 2000) λE=>bif E then AA (A2 fu A.fD 0 2000) λE=>bif E then AA (A2 fu A.fH 0 2000) λA=>bif A then AA (A2 fu D.fX 0 2000) λA=>bif A then AA (A2 fu D.fY 0 2000) λA=>bif A then AA (A2 fu D.fZ 0 2000) λA=>some A else some false else some false else some false else some false else some false
def V7 (fu:Nat) (E:Pallet) (A:Box) (D:Spot):Option Bool:=AA (KJ fu A D) λJ=>bif J then bif A.fW>0 then bif A.fD>0 then bif A.fH>0 then bif AK (D.fX+A.fW)≤E.fW then bif AK (D.fY+A.fD)≤E.fD then some (AK (D.fZ+A.fH)≤E.fH) else some false else some false else some false else some false else some false else some false
def M5 (fu:Nat) (E:Request) (D:Plan) (L:Int→Option Bool) (A:Int):Option Bool:=bif A<D.fV.length then AA (ix D.fV A) λJ=>AA (ix D.fE A) λD=>AA (L9 fu E J) λJ=>AA (V7 fu E.fJ J D) λD=>bif !D then some false else L (AK (A+1)) else some true
def HI (fu:Nat) (A:Request) (D:Plan):Nat→Int→Option Bool|0=>λ_=>none|n+1=>M5 fu A D (HI fu A D n)
def PG fu A D:=HI fu A D fu 0
def KK (fu:Nat) (A J D E:Int):Option Bool:=bif A<AK (D+E) then some (D<AK (A+J)) else some false
def UV fu E A J D:=AA (KJ fu E A) λL=>bif L then AA (KJ fu J D) λL=>bif L then bif A.fJ==D.fJ then AA (KK fu A.fX E.fW D.fX J.fW) λL=>bif L then AA (KK fu A.fY E.fD D.fY J.fD) λL=>bif L then AA (KK fu A.fZ E.fH D.fZ J.fH) λA=>some A else some false else some false else some false else some false else some false
def OE fu (N:Int→Option Bool) J (E:Plan) A (Q:Int→Option Bool) D:=bif D<A then AA (ix E.fV A) λM=>AA (ix E.fE A) λO=>AA (ix E.fV D) λT=>AA (ix E.fE D) λL=>AA (L9 fu J M) λE=>AA (L9 fu J T) λJ=>AA (UV fu E O J L) λE=>bif E then some false else Q (AK (D+1)) else N (AK (A+1))
def H3 (fu:Nat) (J:Int→Option Bool) (A:Request) (E:Plan) (D:Int):Nat→Int→Option Bool|0=>λ_=>none|n+1=>OE fu J A E D (H3 fu J A E D n)
def Pg fu E D J A:=bif A<D.fV.length then H3 fu J E D A fu 0 else some true
def E0 (fu:Nat) (A:Request) (D:Plan):Nat→Int→Option Bool|0=>λ_=>none|n+1=>Pg fu A D (E0 fu A D n)
def SC fu A D:=E0 fu A D fu 0
def LS (fu:Nat) (A:List Int→Int→Option (List Int)) (E:Int) (D:List Int):Option (List Int):=A D (AK (E+1))
def SP fu E (J:Plan) L D A:=AA (ix J.fE A) λJ=>bif J.fJ==L then AA (BE 8 D [A]) λJ=>LS fu E A J else LS fu E A D
def KY (fu:Nat) (A:Plan) (J:Int) (L:List Int→Int→Option (List Int)) (D:List Int) (E:Int):Option (List Int):=bif E<(A.fV.length:Int) then bif (A.fV.length:Int)==(A.fE.length:Int) then SP fu L A J D E else some D else some D
def D7 (fu:Nat) (D:Plan) (A:Int):Nat→List Int→Int→Option (List Int)|0=>λ_ _=>none|n+1=>KY fu D A (D7 fu D A n)
def MN fu D A:=D7 fu D A fu [] 0
def Ml fu J (L:Plan) D (M:Int→Int→Option Int) E A:=bif A<D.length then AA (ix D A) λD=>AA (ix L.fV D) λD=>AA (UF fu J D) λD=>M (AK (E+D)) (AK (A+1)) else some E
def GF (fu:Nat) (A:Request) (E:Plan) (D:List Int):Nat→Int→Int→Option Int|0=>λ_ _=>none|n+1=>Ml fu A E D (GF fu A E D n)
def NW fu E A D:=AA (MN fu A D) λD=>GF fu E A D fu 0 0
def OK (fu:Nat) (A:Int→Option Bool) (D:Int):Option Bool:=A (AK (D+1))
def Mv fu N (E:Plan) J A (L:Int→Option Bool) D:=bif D<A.length then AA (ix A D) λM=>AA (ix E.fV M) λM=>AA (ix A 0) λA=>AA (ix E.fV A) λA=>bif M.fF != A.fF then some false else L (AK (D+1)) else OK fu N J
def GL (fu:Nat) (D:Int→Option Bool) (J:Plan) (E:Int) (A:List Int):Nat→Int→Option Bool|0=>λ_=>none|n+1=>Mv fu D J E A (GL fu D J E A n)
def OQ fu D J E A:=GL fu D J E A fu 1
def LY (fu:Nat) (J:Request) (D:Plan) (E:Int) (M:Int→Option Bool) (A:Int):Option Bool:=bif A<E then AA (MN fu D A) λE=>bif (E.length:Int)==0 then some false else AA (NW fu J D A) λL=>bif L>J.fJ.fQ then some false else OQ fu M D A E else some true
def CX (fu:Nat) (A:Request) (E:Plan) (D:Int):Nat→Int→Option Bool|0=>λ_=>none|n+1=>LY fu A E D (CX fu A E D n)
def NC fu D A:=AA (N8 fu A.fE) λE=>CX fu D A E fu 0
def WT (fu:Nat) (A:Request) (D:Plan):Option Int:=AA (C8 fu A) λE=>AA (SF fu E D) λJ=>bif !J then some 3 else AA (R7 fu A D) λJ=>bif !J then some 4 else AA (Sf fu A E D) λE=>bif !E then some 5 else AA (Sy fu A D) λE=>bif !E then some 6 else AA (PG fu A D) λE=>bif !E then some 7 else AA (SC fu A D) λE=>bif !E then some 8 else AA (NC fu A D) λA=>bif !A then some 9 else some 0
def W3 (fu:Nat) (D:Request) (A:Plan):Option Int:=AA (EU fu D) λE=>bif E != 0 then some 1 else AA (IU fu A) λE=>bif !E then some 2 else AA (Sq fu A) λE=>bif E then some 2 else WT fu D A
def Wd (fu:Nat) (A E:ByteArray):Option (Int×Int):=AA (N9 fu A) λD=>bif D != 0 then some (D,1) else AA (J6 fu A) λD=>AA (SE fu E) λA=>bif !A.2 then some (0,2) else AA (W3 fu D.1 A.1) λA=>some (0,A)
def R6 fu A D:=AA (UH fu A D) λA=>some (A==0)
end Go.Proofs.YtdgpkmgnjdpieaaGreatDoor
