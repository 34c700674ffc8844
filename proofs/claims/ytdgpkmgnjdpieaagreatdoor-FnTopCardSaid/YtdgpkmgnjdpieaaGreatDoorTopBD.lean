/- FnTop: what the func.. -/
import Derived.Test.YtdgpkmgnjdpieaaGreatDoorS12
import Derived.Test.YtdgpkmgnjdpieaaGreatDoorS15
set_option linter.unusedVariables false
namespace Go.Proofs.YtdgpkmgnjdpieaaGreatDoor
open Go
def ay (fu:Nat) (A:List U8):Option Bool:=some ((A.length:Int)>1048576)
def W9 (fu:Nat) (D:Int→Int→Option Cur) (E:List U8) (J A:Int):Option Cur:=AA (ix E A) λE=>D (IntKind.wrap .i64 (((BitVec.ofInt (IntKind.bits .i64) (AK (AK (AK (J*131)+AK E.n)+7)) &&& BitVec.ofInt (IntKind.bits .i64) 1073741823).toNat:Nat):Int)) (AK (A+1))
def UU fu A J D E:=bif E<A.length then bif E<4000 then W9 fu J A D E else some ⟨A,0,D⟩ else some ⟨A,0,D⟩
def JJ (fu:Nat) (A:List U8):Nat→Int→Int→Option Cur|0=>λ_ _=>none|n+1=>UU fu A (JJ fu A n)
def L6 fu A:=JJ fu A fu (AK (26583+A.length)) 0
def JW (fu:Nat) (A:Cur):Option (Int×Cur):=bif A.fi<A.fb.length then AA (ix A.fb A.fi) λD=>some (IntKind.wrap .i64 (((BitVec.ofInt (IntKind.bits .i64) (AK (IntKind.wrap .i64 (((BitVec.ofInt (IntKind.bits .i64) (IntKind.wrap .i64 (((BitVec.ofInt (IntKind.bits .i64) (Int.fdiv (AK (AK (A.fh*6364136223846793005)+1442695040888963407)) (2 ^ min 33 (IntKind.bits .i64))) ^^^ BitVec.ofInt (IntKind.bits .i64) (Int.fdiv (AK (AK (A.fh*6364136223846793005)+1442695040888963407)) (2 ^ min 45 (IntKind.bits .i64)))).toNat:Nat):Int)) &&& BitVec.ofInt (IntKind.bits .i64) 255).toNat:Nat):Int)+AK D.n)) &&& BitVec.ofInt (IntKind.bits .i64) 255).toNat:Nat):Int),⟨A.fb,AK (A.fi+1),AK (AK (A.fh*6364136223846793005)+1442695040888963407)⟩) else some (IntKind.wrap .i64 (((BitVec.ofInt (IntKind.bits .i64) (IntKind.wrap .i64 (((BitVec.ofInt (IntKind.bits .i64) (Int.fdiv (AK (AK (A.fh*6364136223846793005)+1442695040888963407)) (2 ^ min 33 (IntKind.bits .i64))) ^^^ BitVec.ofInt (IntKind.bits .i64) (Int.fdiv (AK (AK (A.fh*6364136223846793005)+1442695040888963407)) (2 ^ min 45 (IntKind.bits .i64)))).toNat:Nat):Int)) &&& BitVec.ofInt (IntKind.bits .i64) 255).toNat:Nat):Int),⟨A.fb,A.fi,AK (AK (A.fh*6364136223846793005)+1442695040888963407)⟩)
def AY fu A D:=bif D≤0 then some (0,A) else bif D≤256 then AA (JW fu A) λE=>AA (qK D) λ_=>some (Int.tmod E.1 D,⟨A.fb,E.2.fi,E.2.fh⟩) else AA (JW fu A) λM=>AA (JW fu ⟨A.fb,M.2.fi,M.2.fh⟩) λE=>AA (JW fu ⟨A.fb,E.2.fi,E.2.fh⟩) λJ=>AA (JW fu ⟨A.fb,J.2.fi,J.2.fh⟩) λL=>AA (qK D) λ_=>some (Int.tmod (AK (AK (AK (AK (M.1*16777216)+AK (E.1*65536))+AK (J.1*256))+L.1)) D,⟨A.fb,L.2.fi,L.2.fh⟩)
def JX (fu:Nat) (D:Cur) (A:Int):Option (Bool×Cur):=AA (AY fu D A) λA=>some (A.1==0,⟨D.fb,A.2.fi,A.2.fh⟩)
def CA (fu:Nat) (E:Cur) (D:List Int):Option (Int×Cur):=AA (AY fu E D.length) λA=>AA (ix D A.1) λD=>some (D,⟨E.fb,A.2.fi,A.2.fh⟩)
def KR (fu:Nat) (A:Int→Int→List Pair→Int→Option (Request×Cur)) (L D J:Int) (E:List Pair):Option (Request×Cur):=A D J E (AK (L+1))
def Rn fu (O:Int→Int→List Pair→Int→Option (Request×Cur)) (Q:Cur) A M L N J D:=bif D≤A then bif A==D then AA (BE 16 J [⟨A,A⟩]) λE=>KR fu M D L N E else AA (JX fu ⟨Q.fb,L,N⟩ 2) λE=>bif E.1 then AA (BE 16 J [⟨A,D⟩,⟨D,A⟩]) λQ=>KR fu M D E.2.fi E.2.fh Q else KR fu M D E.2.fi E.2.fh J else O L N J (AK (A+1))
def GY (fu:Nat) (A:Int→Int→List Pair→Int→Option (Request×Cur)) (E:Cur) (D:Int):Nat→Int→Int→List Pair→Int→Option (Request×Cur)|0=>λ_ _ _ _=>none|n+1=>Rn fu A E D (GY fu A E D n)
def NE (fu:Nat) (J:Int→Int→List Item→Int→Int→Option (Request×Cur)) (L D E:Int) (A:List Item) (M:Int):Option (Request×Cur):=J D E A M (AK (L+1))
def KP fu L J A M E N D:=bif AK (A+D.f9)≤12 then AA (BE 56 J [D]) λO=>NE fu L M E N O (AK (A+D.f9)) else NE fu L M E N J A
def UC fu N (E:Cur) L J M A O D:=AA (JX fu ⟨E.fb,A,O⟩ 3) λA=>bif A.1 then AA (AY fu ⟨E.fb,A.2.fi,A.2.fh⟩ 8) λE=>KP fu N L J M E.2.fi E.2.fh ⟨D.fe,5,5,AK (4+E.1),D.fQ,D.fO,D.f9⟩ else KP fu N L J M A.2.fi A.2.fh D
def QK fu A (Au e Am h At T:Int×Cur) Y Aq (D:Int×Cur) Av V U Q Z O:=bif O<D.1 then AA (AY fu ⟨A.fb,V,U⟩ 10) λL=>AA (AY fu ⟨A.fb,L.2.fi,L.2.fh⟩ 10) λD=>AA (AY fu ⟨A.fb,D.2.fi,D.2.fh⟩ 10) λJ=>AA (AY fu ⟨A.fb,J.2.fi,J.2.fh⟩ 60) λE=>AA (AY fu ⟨A.fb,E.2.fi,E.2.fh⟩ (AK (1+T.1))) λM=>AA (AY fu ⟨A.fb,M.2.fi,M.2.fh⟩ 4) λN=>UC fu Av A Q Z O N.2.fi N.2.fh ⟨AK (3*O),AK (1+L.1),AK (1+D.1),AK (1+J.1),AK (1+E.1),M.1,AK (1+N.1)⟩ else some (⟨Au.1,⟨e.1,Am.1,h.1,At.1⟩,AK (1+T.1),Y,Aq,7,Q⟩,⟨A.fb,V,U⟩)
def DX (fu:Nat) (J:Cur) (E T D A M N:Int×Cur) (L:List Pair) (O:List Typ) (Q:Int×Cur):Nat→Int→Int→List Item→Int→Int→Option (Request×Cur)|0=>λ_ _ _ _ _=>none|n+1=>QK fu J E T D A M N L O Q (DX fu J E T D A M N L O Q n)
def Q6 fu A Au e h Y Z At V (D:Int×Cur) (Av:Int→Int→List Typ→Int→Option (Request×Cur)) Q U T E:=bif E<D.1 then AA (AY fu ⟨A.fb,Q,U⟩ 9) λD=>AA (AY fu ⟨A.fb,D.2.fi,D.2.fh⟩ 8) λO=>AA (AY fu ⟨A.fb,O.2.fi,O.2.fh⟩ 9) λM=>AA (AY fu ⟨A.fb,M.2.fi,M.2.fh⟩ 5) λJ=>AA (AY fu ⟨A.fb,J.2.fi,J.2.fh⟩ 90) λN=>AA (AY fu ⟨A.fb,N.2.fi,N.2.fh⟩ 20) λL=>AA (BE 56 T [⟨AK (10+E),AK (4+D.1),AK (3+O.1),AK (3+M.1),J.1,AK (20+N.1),AK (1+L.1)⟩]) λD=>Av L.2.fi L.2.fh D (AK (E+1)) else AA (AY fu ⟨A.fb,Q,U⟩ 6) λD=>DX fu A Au e h Y Z At V T D fu D.2.fi D.2.fh [] 0 0
def I6 (fu:Nat) (E:Cur) (L Q D A O N:Int×Cur) (J:List Pair) (M:Int×Cur):Nat→Int→Int→List Typ→Int→Option (Request×Cur)|0=>λ_ _ _ _=>none|n+1=>Q6 fu E L Q D A O N J M (I6 fu E L Q D A O N J M n)
def UT fu D Q M O U T N J L A E:=AA (AY fu ⟨D.fb,L,A⟩ 5) λA=>I6 fu D Q M O U T N J A fu A.2.fi A.2.fh E 0
def QR fu A Q O U V N L T J E M D:=bif D<AK (1+L.1) then GY fu T A D fu J E M 0 else AA (AY fu ⟨A.fb,J,E⟩ 8) λJ=>AA (CA fu ⟨A.fb,J.2.fi,J.2.fh⟩ [60,100,140]) λD=>AA (CA fu ⟨A.fb,D.2.fi,D.2.fh⟩ [9,20]) λE=>AA (BE 56 [] [⟨7,12,10,11,J.1,D.1,E.1⟩]) λD=>UT fu A Q O U V N L M E.2.fi E.2.fh D
def ET (fu:Nat) (D:Cur) (L A J E N M:Int×Cur):Nat→Int→Int→List Pair→Int→Option (Request×Cur)|0=>λ_ _ _ _=>none|n+1=>QR fu D L A J E N M (ET fu D L A J E N M n)
def O9 fu A:=AA (AY fu A 2) λL=>AA (CA fu ⟨A.fb,L.2.fi,L.2.fh⟩ [20,30,37]) λD=>AA (CA fu ⟨A.fb,D.2.fi,D.2.fh⟩ [20,25,40]) λJ=>AA (CA fu ⟨A.fb,J.2.fi,J.2.fh⟩ [15,24,50]) λE=>AA (CA fu ⟨A.fb,E.2.fi,E.2.fh⟩ [150,400,5000]) λN=>AA (AY fu ⟨A.fb,N.2.fi,N.2.fh⟩ 4) λM=>ET fu A L D J E N M fu M.2.fi M.2.fh [] 0
def BR (fu:Nat) (M:Cur) (A:Request×Cur) (T E V D:Int) (J:List Pair) (U:List Typ) (L:Int) (Q:List Item) (N O:Int):Option (Request×Cur):=some (⟨T,⟨E,A.1.fJ.fD,A.1.fJ.fH,V⟩,D,J,U,L,Q⟩,⟨M.fb,N,O⟩)
def RT (fu:Nat) (E:Cur):Option (Request×Cur):=AA (O9 fu E) λA=>AA (CA fu (⟨E.fb,A.2.fi,A.2.fh⟩:Cur) ([-1,0,2001,100001,1000,9223372036854775807]:List Int)) λJ=>AA (AY fu (⟨E.fb,J.2.fi,J.2.fh⟩:Cur) 20) λD=>bif D.1==0 then AA (CA fu (⟨E.fb,D.2.fi,D.2.fh⟩:Cur) ([-1,2]:List Int)) λL=>BR fu E A L.1 A.1.fJ.fW A.1.fJ.fQ A.1.fR A.1.fT A.1.fG A.1.fP A.1.fU L.2.fi L.2.fh else bif D.1==1 then BR fu E A A.1.fc J.1 A.1.fJ.fQ A.1.fR A.1.fT A.1.fG A.1.fP A.1.fU D.2.fi D.2.fh else bif D.1==2 then BR fu E A A.1.fc A.1.fJ.fW J.1 A.1.fR A.1.fT A.1.fG A.1.fP A.1.fU D.2.fi D.2.fh else bif D.1==3 then AA (CA fu (⟨E.fb,D.2.fi,D.2.fh⟩:Cur) ([0,5,1]:List Int)) λL=>BR fu E A A.1.fc A.1.fJ.fW A.1.fJ.fQ L.1 A.1.fT A.1.fG A.1.fP A.1.fU L.2.fi L.2.fh else bif D.1==4 then AA (AY fu (⟨E.fb,D.2.fi,D.2.fh⟩:Cur) 6) λM=>AA (AY fu (⟨E.fb,M.2.fi,M.2.fh⟩:Cur) 4) λL=>AA (BE 16 A.1.fT ([(⟨AK (M.1 - 1),L.1⟩:Pair)]:List Pair)) λM=>BR fu E A A.1.fc A.1.fJ.fW A.1.fJ.fQ A.1.fR M A.1.fG A.1.fP A.1.fU L.2.fi L.2.fh else bif D.1==5 then AA (ix A.1.fG 0) λL=>BR fu E A A.1.fc A.1.fJ.fW A.1.fJ.fQ A.1.fR A.1.fT (DB A.1.fG 0 ({ L with fH:=J.1 })) A.1.fP A.1.fU D.2.fi D.2.fh else bif D.1==6 then AA (AY fu (⟨E.fb,D.2.fi,D.2.fh⟩:Cur) (A.1.fG.length:Int)) λL=>AA (ix A.1.fG L.1) λM=>BR fu E A A.1.fc A.1.fJ.fW A.1.fJ.fQ A.1.fR A.1.fT (DB A.1.fG L.1 ({ M with fQ:=J.1 })) A.1.fP A.1.fU L.2.fi L.2.fh else bif D.1==7 then AA (CA fu (⟨E.fb,D.2.fi,D.2.fh⟩:Cur) ([8,-1,1000]:List Int)) λL=>BR fu E A A.1.fc A.1.fJ.fW A.1.fJ.fQ A.1.fR A.1.fT A.1.fG L.1 A.1.fU L.2.fi L.2.fh else bif D.1==8 then AA (AY fu (⟨E.fb,D.2.fi,D.2.fh⟩:Cur) 5) λM=>AA (AY fu (⟨E.fb,M.2.fi,M.2.fh⟩:Cur) 8) λL=>AA (BE 56 A.1.fU ([(⟨3,1,2,3,4,M.1,L.1⟩:Item)]:List Item)) λM=>BR fu E A A.1.fc A.1.fJ.fW A.1.fJ.fQ A.1.fR A.1.fT A.1.fG A.1.fP M L.2.fi L.2.fh else bif D.1==9 then bif (A.1.fU.length:Int)>0 then AA (ix A.1.fU 0) λL=>BR fu E A A.1.fc A.1.fJ.fW A.1.fJ.fQ A.1.fR A.1.fT A.1.fG A.1.fP (DB A.1.fU 0 ({ L with fD:=J.1 })) D.2.fi D.2.fh else BR fu E A A.1.fc A.1.fJ.fW A.1.fJ.fQ A.1.fR A.1.fT A.1.fG A.1.fP A.1.fU D.2.fi D.2.fh else bif D.1==10 then bif (A.1.fT.length:Int)>0 then AA (RA A.1.fT 1 (A.1.fT.length:Int)) λJ=>BR fu E A A.1.fc A.1.fJ.fW A.1.fJ.fQ A.1.fR J A.1.fG A.1.fP A.1.fU D.2.fi D.2.fh else BR fu E A A.1.fc A.1.fJ.fW A.1.fJ.fQ A.1.fR A.1.fT A.1.fG A.1.fP A.1.fU D.2.fi D.2.fh else bif D.1==11 then AA (ix A.1.fG 0) λJ=>AA (BE 56 A.1.fG ([J]:List Typ)) λJ=>BR fu E A A.1.fc A.1.fJ.fW A.1.fJ.fQ A.1.fR A.1.fT J A.1.fP A.1.fU D.2.fi D.2.fh else bif D.1==12 then BR fu E A A.1.fc A.1.fJ.fW A.1.fJ.fQ A.1.fR A.1.fT ([]:List Typ) A.1.fP A.1.fU D.2.fi D.2.fh else BR fu E A A.1.fc A.1.fJ.fW A.1.fJ.fQ A.1.fR A.1.fT A.1.fG A.1.fP A.1.fU D.2.fi D.2.fh
def A2 (fu:Nat) (A E D:Int):Option Bool:=bif A≥E then some (A≤D) else some false
def SW (fu:Nat) (A:Request) (L:List ByteArray→List (List Int)→Int→Option ((List ByteArray)×(List (List Int)))) (E:List ByteArray) (J:List (List Int)) (D:Int):Option ((List ByteArray)×(List (List Int))):=bif D<A.fU.length then AA (ix A.fU D) λA=>AA (BE 16 E [⟨#[105,116,101,109]⟩]) λM=>AA (BE 24 J [[A.fe,A.fW,A.fH,A.fD,A.fQ,A.fO,A.f9]]) λA=>L M A (AK (D+1)) else some (E,J)
def IL (fu:Nat) (A:Request):Nat→List ByteArray→List (List Int)→Int→Option ((List ByteArray)×(List (List Int)))|0=>λ_ _ _=>none|n+1=>SW fu A (IL fu A n)
def Tq fu D (N:List ByteArray→List (List Int)→Int→Option ((List ByteArray)×(List (List Int)))) L J E:=bif E<D.fG.length then AA (ix D.fG E) λA=>AA (BE 16 L [⟨#[116,121,112,101]⟩]) λM=>AA (BE 24 J [[A.fe,A.fW,A.fH,A.fD,A.ff,A.fQ,A.fd]]) λA=>N M A (AK (E+1)) else AA (BE 16 L [⟨#[109,97,115,116,101,114]⟩]) λA=>AA (BE 24 J [[D.fP]]) λE=>IL fu D fu A E 0
def IG (fu:Nat) (A:Request):Nat→List ByteArray→List (List Int)→Int→Option ((List ByteArray)×(List (List Int)))|0=>λ_ _ _=>none|n+1=>Tq fu A (IG fu A n)
def S0 fu D (N:List ByteArray→List (List Int)→Int→Option ((List ByteArray)×(List (List Int)))) J E A:=bif A<D.fT.length then AA (BE 16 J [⟨#[119,105,116,104]⟩]) λM=>AA (ix D.fT A) λL=>AA (ix D.fT A) λ_=>AA (BE 24 E [[L.fA,L.fB]]) λL=>N M L (AK (A+1)) else IG fu D fu J E 0
def J1 (fu:Nat) (A:Request):Nat→List ByteArray→List (List Int)→Int→Option ((List ByteArray)×(List (List Int)))|0=>λ_ _ _=>none|n+1=>S0 fu A (J1 fu A n)
def Wd fu A:=J1 fu A fu [⟨#[112,97,108,108,101,116]⟩,⟨#[99,108,97,115,115,101,115]⟩] [[A.fJ.fW,A.fJ.fD,A.fJ.fH,A.fJ.fQ],[A.fR]] 0
def PN (fu:Nat) (A:Int→ByteArray→Option ByteArray) (E:Int) (J:ByteArray) (D:Int):Option ByteArray:=AA (Zp [⟨w8 (AK (48+D))⟩]) λD=>AA (NY D J) λD=>A (AK (Int.tdiv E 10)) D
def TJ (fu:Nat) (n1:Int) (E:Int→ByteArray→Option ByteArray) (A:Int) (D:ByteArray):Option ByteArray:=bif A != 0 then bif Int.tmod A 10<0 then PN fu E A D (AK (0 - Int.tmod A 10)) else PN fu E A D (Int.tmod A 10) else bif n1<0 then AA (NY ⟨#[45]⟩ D) λA=>some A else some D
def ID (fu:Nat) (n1:Int):Nat→Int→ByteArray→Option ByteArray|0=>λ_ _=>none|n+1=>TJ fu n1 (ID fu n1 n)
def KZ fu n1:=bif n1==0 then some ⟨#[48]⟩ else ID fu n1 fu n1 ⟨#[]⟩
def UD fu D (M:ByteArray→Int→Option (ByteArray×Bool)) E A:=bif A<D.length then AA (ix D A) λJ=>AA (A2 fu J 0 999999) λL=>bif !L then some (⟨#[]⟩,false) else AA (NY E ⟨#[32]⟩) λL=>AA (ix D A) λ_=>AA (KZ fu J) λD=>AA (NY L D) λD=>M D (AK (A+1)) else AA (NY E ⟨#[10]⟩) λA=>some (A,true)
def KK (fu:Nat) (A:List Int):Nat→ByteArray→Int→Option (ByteArray×Bool)|0=>λ_ _=>none|n+1=>UD fu A (KK fu A n)
def Xq fu D A:=KK fu A fu D 0
def Nb (fu:Nat) (D:(List ByteArray)×(List (List Int))) (J:ByteArray→Int→Option ByteArray) (E:ByteArray) (A:Int):Option ByteArray:=bif A<D.1.length then AA (ix D.1 A) λL=>AA (ix D.2 A) λD=>AA (Xq fu L D) λD=>bif !D.2 then some ⟨#[]⟩ else AA (NY E D.1) λD=>J D (AK (A+1)) else some E
def HF (fu:Nat) (A:(List ByteArray)×(List (List Int))):Nat→ByteArray→Int→Option ByteArray|0=>λ_ _=>none|n+1=>Nb fu A (HF fu A n)
def J7 fu A:=AA (A2 fu A.fc 0 1) λD=>bif !D then some ⟨#[]⟩ else AA (ix [⟨#[119,97,121,32,102,105,114,115,116,10]⟩,⟨#[119,97,121,32,110,101,120,116,10]⟩] A.fc) λD=>AA (Wd fu A) λA=>HF fu A fu D 0
def MS (fu:Nat) (E:Cur) (D:List ByteArray):Option (ByteArray×Cur):=AA (AY fu E D.length) λA=>AA (ix D A.1) λD=>some (D,⟨E.fb,A.2.fi,A.2.fh⟩)
def V8 (fu:Nat) (D:Cur):Option (ByteArray×Cur):=AA (RT fu D) λA=>AA (J7 fu A.1) λL=>AA (qy L) λE=>AA (AY fu ⟨D.fb,A.2.fi,A.2.fh⟩ (AK (E.length+1))) λJ=>AA (AY fu ⟨D.fb,J.2.fi,J.2.fh⟩ 10) λA=>bif A.1==0 then AA (RA E 0 J.1) λM=>AA (Zp M) λM=>some (M,⟨D.fb,A.2.fi,A.2.fh⟩) else bif A.1==1 then AA (RA E 0 J.1) λM=>AA (Zp M) λN=>AA (RA E J.1 E.length) λM=>AA (Zp M) λO=>AA (MS fu ⟨D.fb,A.2.fi,A.2.fh⟩ [⟨#[120]⟩,⟨#[32]⟩,⟨#[48]⟩,⟨#[10]⟩,⟨#[105,116,101,109,32,49,32,49,32,49,32,49,32,49,32,48,32,49,10]⟩,⟨#[57,57,57,57,57,57,57]⟩]) λM=>AA (NY N M.1) λN=>AA (NY N O) λN=>some (N,⟨D.fb,M.2.fi,M.2.fh⟩) else bif A.1==2 then bif J.1<E.length then AA (RA E 0 J.1) λM=>AA (Zp M) λM=>AA (RA E (AK (J.1+1)) E.length) λE=>AA (Zp E) λE=>AA (NY M E) λE=>some (E,⟨D.fb,A.2.fi,A.2.fh⟩) else some (L,⟨D.fb,A.2.fi,A.2.fh⟩) else bif A.1==3 then AA (MS fu ⟨D.fb,A.2.fi,A.2.fh⟩ [⟨#[]⟩,⟨#[119,97,121,32,102,105,114,115,116,10]⟩,⟨#[119,97,121,10]⟩,⟨#[119,97,121,32,110,101,120,116,10,112,97,108,108,101,116,32,49,32,49,32,49,32,49,10,99,108,97,115,115,101,115,32,49,10,109,97,115,116,101,114,32,49,10]⟩,⟨#[119,97,121,32,110,101,120,116,10,112,97,108,108,101,116,32,49,32,49,32,49,32,48,49,10]⟩,⟨#[119,97,121,32,102,105,114,115,116,10,112,97,108,108,101,116,32,49,32,49,32,49,32,49,10,99,108,97,115,115,101,115,32,49,10,109,97,115,116,101,114,32,49]⟩]) λE=>some (E.1,⟨D.fb,E.2.fi,E.2.fh⟩) else some (L,⟨D.fb,A.2.fi,A.2.fh⟩)
def FB fu A:=AA (A2 fu A 1 2000) λA=>some A
def JF fu (A:Pallet):=AA (FB fu A.fW) λD=>bif D then AA (FB fu A.fD) λD=>bif D then AA (FB fu A.fH) λD=>bif D then AA (A2 fu A.fQ 1 100000) λA=>some A else some false else some false else some false
def N7 fu A:=AA (A2 fu A 0 999) λA=>some A
def Wu fu (A:Typ):=AA (N7 fu A.fe) λD=>bif D then AA (FB fu A.fW) λD=>bif D then AA (FB fu A.fH) λD=>bif D then AA (FB fu A.fD) λD=>bif D then AA (A2 fu A.ff 0 100000) λD=>bif D then AA (A2 fu A.fQ 1 100000) λD=>bif D then AA (A2 fu A.fd 0 100000) λA=>some A else some false else some false else some false else some false else some false else some false
def Wz fu (A:Item):=AA (N7 fu A.fe) λD=>bif D then AA (FB fu A.fW) λD=>bif D then AA (FB fu A.fH) λD=>bif D then AA (FB fu A.fD) λD=>bif D then AA (A2 fu A.fQ 1 100000) λD=>bif D then AA (A2 fu A.fO 0 3) λD=>bif D then AA (A2 fu A.f9 1 6) λA=>some A else some false else some false else some false else some false else some false else some false
def TH (fu:Nat) (D:Int→Option Bool) (A:Int):Option Bool:=D (AK (A+1))
def O3 (fu:Nat) (D:Request) (M:Int→Int→Option Bool) (J A:Int):Option Bool:=bif A<D.fU.length then AA (ix D.fU A) λE=>AA (Wz fu E) λL=>bif !L then some false else AA (ix D.fU A) λ_=>M (AK (J+E.f9)) (AK (A+1)) else some (J≤12)
def E2 (fu:Nat) (A:Request):Nat→Int→Int→Option Bool|0=>λ_ _=>none|n+1=>O3 fu A (E2 fu A n)
def O4 fu D (J:Int→Option Bool) A:=bif A<D.fG.length then AA (ix D.fG A) λE=>AA (Wu fu E) λE=>bif !E then some false else J (AK (A+1)) else E2 fu D fu 0 0
def E3 (fu:Nat) (A:Request):Nat→Int→Option Bool|0=>λ_=>none|n+1=>O4 fu A (E3 fu A n)
def OU fu D J A:=bif A<D.fT.length then AA (ix D.fT A) λE=>AA (A2 fu E.fA 0 3) λL=>bif !L then some false else AA (ix D.fT A) λ_=>AA (A2 fu E.fB 0 3) λE=>bif !E then some false else TH fu J A else E3 fu D fu 0
def EZ (fu:Nat) (A:Request):Nat→Int→Option Bool|0=>λ_=>none|n+1=>OU fu A (EZ fu A n)
def Tm fu A:=EZ fu A fu 0
def SJ (fu:Nat) (A:Request):Option Bool:=AA (A2 fu A.fc 0 1) λD=>bif !D then some false else AA (JF fu A.fJ) λD=>bif !D then some false else AA (A2 fu A.fR 1 4) λD=>bif !D then some false else bif (A.fT.length:Int)>16 then some false else AA (A2 fu (A.fG.length:Int) 1 5) λD=>bif !D then some false else AA (N7 fu A.fP) λD=>bif !D then some false else bif (A.fU.length:Int)>8 then some false else Tm fu A
def N0 (fu:Nat) (D:Request) (J:Int→Option (Typ×Bool)) (A:Int):Option (Typ×Bool):=bif A<D.fG.length then AA (ix D.fG A) λE=>bif E.fe==D.fP then AA (ix D.fG A) λ_=>some (E,true) else J (AK (A+1)) else some (⟨0,0,0,0,0,0,0⟩,false)
def IP (fu:Nat) (A:Request):Nat→Int→Option (Typ×Bool)|0=>λ_=>none|n+1=>N0 fu A (IP fu A n)
def HO fu A:=IP fu A fu 0
def Q7 (fu:Nat) (J:Int→Option Bool) (E:Request) (A:Int) (L:Int→Option Bool) (D:Int):Option Bool:=bif D<A then AA (ix E.fG A) λM=>AA (ix E.fG D) λE=>bif M.fe==E.fe then some false else L (AK (D+1)) else J (AK (A+1))
def FN (fu:Nat) (A:Int→Option Bool) (E:Request) (D:Int):Nat→Int→Option Bool|0=>λ_=>none|n+1=>Q7 fu A E D (FN fu A E D n)
def Rx (fu:Nat) (L:Int→Option Bool) (E:Request) (A:Int) (J:Int→Option Bool) (D:Int):Option Bool:=bif D<A then AA (ix E.fU A) λM=>AA (ix E.fU D) λE=>bif M.fe==E.fe then some false else J (AK (D+1)) else L (AK (A+1))
def FT (fu:Nat) (D:Int→Option Bool) (E:Request) (A:Int):Nat→Int→Option Bool|0=>λ_=>none|n+1=>Rx fu D E A (FT fu D E A n)
def T3 (fu:Nat) (A:Int→Option Bool) (D:Int):Option Bool:=A (AK (D+1))
def Q1 fu A J D:=bif D<A.fT.length then AA (ix A.fT D) λE=>bif E.fA≥A.fR then some false else AA (ix A.fT D) λ_=>bif E.fB≥A.fR then some false else T3 fu J D else AA (HO fu A) λA=>some A.2
def EN (fu:Nat) (A:Request):Nat→Int→Option Bool|0=>λ_=>none|n+1=>Q1 fu A (EN fu A n)
def Rf fu A J D:=bif D<A.fU.length then AA (ix A.fU D) λE=>bif E.fO≥A.fR then some false else FT fu J A D fu 0 else EN fu A fu 0
def B0 (fu:Nat) (A:Request):Nat→Int→Option Bool|0=>λ_=>none|n+1=>Rf fu A (B0 fu A n)
def QE fu A E D:=bif D<A.fG.length then FN fu E A D fu 0 else B0 fu A fu 0
def B7 (fu:Nat) (A:Request):Nat→Int→Option Bool|0=>λ_=>none|n+1=>QE fu A (B7 fu A n)
def US fu A:=B7 fu A fu 0
def PH (fu:Nat) (A:Int→Option Bool) (D:Int):Option Bool:=A (AK (D+1))
def Ty (fu:Nat) (D:List Pair) (M L:Int) (E:Int→Option Bool) (A:Int):Option Bool:=bif A<D.length then AA (ix D A) λJ=>bif J.fA==M then AA (ix D A) λ_=>bif J.fB==L then some true else PH fu E A else PH fu E A else some false
def IB (fu:Nat) (D:List Pair) (E A:Int):Nat→Int→Option Bool|0=>λ_=>none|n+1=>Ty fu D E A (IB fu D E A n)
def GQ fu E A D:=IB fu E A D fu 0
def Nw (fu:Nat) (D:Int→Option Bool) (A:Int):Option Bool:=D (AK (A+1))
def QT fu (M:Int→Option Bool) E L A J D:=bif D<L then bif A==D then AA (GQ fu E A A) λL=>bif !L then some false else AA (GQ fu E A D) λL=>AA (GQ fu E D A) λN=>bif !(L==N) then some false else Nw fu J D else AA (GQ fu E A D) λL=>AA (GQ fu E D A) λE=>bif !(L==E) then some false else Nw fu J D else M (AK (A+1))
def FV (fu:Nat) (A:Int→Option Bool) (E:List Pair) (D J:Int):Nat→Int→Option Bool|0=>λ_=>none|n+1=>QT fu A E D J (FV fu A E D J n)
def PY fu J D E A:=bif A<D then FV fu E J D A fu 0 else some true
def ER (fu:Nat) (A:List Pair) (D:Int):Nat→Int→Option Bool|0=>λ_=>none|n+1=>PY fu A D (ER fu A D n)
def TW fu E A:=AA (A2 fu A 1 4) λD=>bif !D then some false else ER fu E A fu 0
def OT (fu:Nat) (n1:Int) (E:List Int→Int→Option (List Int)) (D:List Int) (A:Int):Option (List Int):=bif A<n1 then AA (BE 8 D [A]) λJ=>E J (AK (A+1)) else some D
def H9 (fu:Nat) (n1:Int):Nat→List Int→Int→Option (List Int)|0=>λ_ _=>none|n+1=>OT fu n1 (H9 fu n1 n)
def MD fu n1:=H9 fu n1 fu [] 0
def KS (fu:Nat) (E:List Int→Int→Int→Option (List Int)) (Q:List Int) (U:Bool) (L M J:List Int) (A D:Int):Option (List Int):=bif D==M.length then AA (ix L A) λN=>AA (BE 8 J [N]) λN=>E N (AK (A+1)) D else bif A==L.length then AA (ix M D) λN=>AA (BE 8 J [N]) λN=>E N A (AK (D+1)) else AA (ix M D) λO=>AA (ix Q O) λT=>AA (ix L A) λN=>AA (ix Q N) λV=>bif T<V then bif !U then AA (ix M D) λ_=>AA (BE 8 J [O]) λY=>E Y A (AK (D+1)) else AA (ix M D) λ_=>AA (ix Q O) λ_=>AA (ix L A) λ_=>AA (ix Q N) λ_=>bif T>V then bif U then AA (ix M D) λ_=>AA (BE 8 J [O]) λY=>E Y A (AK (D+1)) else AA (ix L A) λ_=>AA (BE 8 J [N]) λY=>E Y (AK (A+1)) D else AA (ix L A) λ_=>AA (BE 8 J [N]) λY=>E Y (AK (A+1)) D else AA (ix M D) λ_=>AA (ix Q O) λ_=>AA (ix L A) λ_=>AA (ix Q N) λ_=>bif T>V then bif U then AA (ix M D) λ_=>AA (BE 8 J [O]) λM=>E M A (AK (D+1)) else AA (ix L A) λ_=>AA (BE 8 J [N]) λM=>E M (AK (A+1)) D else AA (ix L A) λ_=>AA (BE 8 J [N]) λJ=>E J (AK (A+1)) D
def Rq fu N O L A M J D E:=bif D<L.length then KS fu M N O L A J D E else bif E<A.length then KS fu M N O L A J D E else some J
def DM (fu:Nat) (A:List Int) (E:Bool) (D J:List Int):Nat→List Int→Int→Int→Option (List Int)|0=>λ_ _ _=>none|n+1=>Rq fu A E D J (DM fu A E D J n)
def Ya (fu:Nat) (A:List Int→List Int→Bool→Option (List Int)) (E D:List Int) (J:Bool):Option (List Int):=bif (D.length:Int)<2 then AA (BE 8 ([]:List Int) D) λL=>some L else AA (RA D 0 (AK (Int.tdiv (D.length:Int) 2))) λL=>AA (A E L J) λL=>AA (RA D (AK (Int.tdiv (D.length:Int) 2)) (D.length:Int)) λD=>AA (A E D J) λA=>DM fu E J L A fu ([]:List Int) 0 0
def Le (fu:Nat):Nat→List Int→List Int→Bool→Option (List Int)|0=>λ_ _ _=>none|n+1=>Ya fu (Le fu n)
def OY fu A D E:=Le fu fu A D E
def RO fu A:=AA (MD fu A.length) λD=>AA (OY fu A D false) λA=>some A
def Oh fu D A E:=AA (RO fu [D,A,E]) λJ=>AA (ix J 0) λL=>AA (ix [D,A,E] L) λL=>AA (ix J 1) λM=>AA (ix [D,A,E] M) λM=>AA (ix J 2) λJ=>AA (ix [D,A,E] J) λA=>some [L,M,A]
def TN (fu:Nat) (A:Item) (D:Typ):Option Bool:=AA (Oh fu A.fW A.fH A.fD) λJ=>AA (Oh fu D.fW D.fH D.fD) λE=>AA (ix J 0) λM=>AA (ix E 0) λL=>bif M≤L then AA (ix J 1) λL=>AA (ix E 1) λM=>bif L≤M then AA (ix J 2) λJ=>AA (ix E 2) λE=>bif J≤E then some (A.fQ≤D.fQ) else some false else some false else some false
def WU (fu:Nat) (D:Int→Option Int) (A:Int):Option Int:=D (AK (A+1))
def Ut (fu:Nat) (A:Request) (J:Int→Option Int) (E:Int):Option Int:=bif E<A.fG.length then AA (ix A.fG E) λD=>bif D.fW>A.fJ.fW then some 6 else bif D.fD>A.fJ.fD then some 6 else bif D.fH>A.fJ.fH then some 6 else bif AK (D.ff+D.fQ)>A.fJ.fQ then some 6 else WU fu J E else some 0
def HP (fu:Nat) (A:Request):Nat→Int→Option Int|0=>λ_=>none|n+1=>Ut fu A (HP fu A n)
def Ue (fu:Nat) (D:Request) (E:Typ×Bool) (J:Int→Option Int) (A:Int):Option Int:=bif A<D.fU.length then AA (ix D.fU A) λL=>AA (TN fu L E.1) λE=>bif !E then some 5 else J (AK (A+1)) else HP fu D fu 0
def JI (fu:Nat) (D:Request) (A:Typ×Bool):Nat→Int→Option Int|0=>λ_=>none|n+1=>Ue fu D A (JI fu D A n)
def EK fu A:=AA (SJ fu A) λD=>bif !D then some 2 else AA (US fu A) λD=>bif !D then some 3 else AA (TW fu A.fT A.fR) λD=>bif !D then some 4 else AA (HO fu A) λD=>JI fu A D fu 0
def PO (fu:Nat) (A:List Item→Int→Option (Request×Cur)) (E:Int) (D:List Item):Option (Request×Cur):=A D (AK (E+1))
def S5 (fu:Nat) (M:Cur) (A:Request×Cur) (N:Typ×Bool) (J:List Item→Int→Option (Request×Cur)) (E:List Item) (D:Int):Option (Request×Cur):=bif D<A.1.fU.length then AA (ix A.1.fU D) λL=>AA (TN fu L N.1) λN=>bif N then AA (ix A.1.fU D) λ_=>AA (BE 56 E [L]) λL=>PO fu J D L else PO fu J D E else some (⟨A.1.fc,⟨30,25,24,400⟩,A.1.fR,A.1.fT,A.1.fG,A.1.fP,E⟩,⟨M.fb,A.2.fi,A.2.fh⟩)
def HY (fu:Nat) (E:Cur) (A:Request×Cur) (D:Typ×Bool):Nat→List Item→Int→Option (Request×Cur)|0=>λ_ _=>none|n+1=>S5 fu E A D (HY fu E A D n)
def RU fu D:=AA (O9 fu D) λA=>AA (EK fu A.1) λE=>bif E != 0 then AA (HO fu ⟨A.1.fc,⟨30,25,24,400⟩,A.1.fR,A.1.fT,A.1.fG,A.1.fP,A.1.fU⟩) λE=>HY fu D A E fu [] 0 else some (A.1,⟨D.fb,A.2.fi,A.2.fh⟩)
def Sn fu D:=AA (L6 fu D) λA=>AA (JX fu ⟨D,A.fi,A.fh⟩ 3) λA=>bif A.1 then AA (V8 fu ⟨D,A.2.fi,A.2.fh⟩) λE=>some E.1 else AA (RU fu ⟨D,A.2.fi,A.2.fh⟩) λA=>AA (J7 fu A.1) λA=>some A
def KL (fu:Nat) (A:List ByteArray→Int→Int→Option (List ByteArray)) (D:Int) (J:List ByteArray) (E:Int):Option (List ByteArray):=A J E (AK (D+1))
def NS fu D N J E L A:=bif A≤D.size then bif A==D.size then AA (tM D L A) λM=>AA (BE 16 E [M]) λM=>KL fu J A M (AK (A+1)) else AA (sx D A) λM=>bif M==N then AA (tM D L A) λD=>AA (BE 16 E [D]) λD=>KL fu J A D (AK (A+1)) else KL fu J A E L else some E
def HQ (fu:Nat) (A:ByteArray) (D:Int):Nat→List ByteArray→Int→Int→Option (List ByteArray)|0=>λ_ _ _=>none|n+1=>NS fu A D (HQ fu A D n)
def LY fu A D:=HQ fu A D fu [] 0 0
def VH (fu:Nat) (D:Int→Int→Option (Int×Bool)) (E A:Int):Option (Int×Bool):=D A (AK (E+1))
def VM fu E D J A:=AA (sx D A) λD=>VH fu E A (AK (AK (AK (10*J)+AK D) - 48))
def SU fu A L E D:=bif D<A.size then AA (sx A D) λJ=>bif J<48 then some (0,false) else AA (sx A D) λJ=>bif J>57 then some (0,false) else VM fu L A E D else AA (KZ fu E) λD=>bif !(D.toList==A.toList) then some (0,false) else some (E,true)
def GI (fu:Nat) (A:ByteArray):Nat→Int→Int→Option (Int×Bool)|0=>λ_ _=>none|n+1=>SU fu A (GI fu A n)
def VT fu A:=GI fu A fu 0 0
def MR (fu:Nat) (A:ByteArray):Option (Int×Bool):=bif (A.size:Int)<1 then some (0,false) else bif (A.size:Int)>6 then some (0,false) else VT fu A
def Tj fu D (J:List Int→Int→Option ((List Int)×Bool)) E A:=bif A<D.length then AA (ix D A) λD=>AA (MR fu D) λD=>bif !D.2 then some ([],false) else AA (BE 8 E [D.1]) λD=>J D (AK (A+1)) else some (E,true)
def J4 (fu:Nat) (A:List ByteArray):Nat→List Int→Int→Option ((List Int)×Bool)|0=>λ_ _=>none|n+1=>Tj fu A (J4 fu A n)
def V2 fu A:=J4 fu A fu [] 1
def RL fu A (E:ByteArray) J:=AA (LY fu A 32) λA=>AA (ix A 0) λD=>bif !(D.toList==E.toList) then some ([],false) else bif A.length != AK (J+1) then some ([],false) else V2 fu A
def BV fu D A J E:=bif A≥AK (D.length - 1) then some ([],false) else AA (ix D A) λA=>AA (RL fu A J E) λA=>some (A.1,A.2)
def M7 (fu:Nat) (E:List ByteArray) (V Y M Ap Z Am:Int) (h:List Pair) (At:List Typ) (U:Int) (O:List Item→Int→List Int→Bool→Option (Request×Int)) (J:List Item) (D:Int) (A:List Int) (L:Bool):Option (Request×Int):=bif L then AA (ix A 0) λN=>AA (ix A 1) λT=>AA (ix A 2) λAu=>AA (ix A 3) λL=>AA (ix A 4) λQ=>AA (ix A 5) λe=>AA (ix A 6) λA=>AA (BE 56 J ([(⟨N,T,Au,L,Q,e,A⟩:Item)]:List Item)) λL=>AA (BV fu E (AK (D+1)) (⟨#[105,116,101,109]⟩:ByteArray) 7) λA=>O L (AK (D+1)) A.1 A.2 else bif D<AK ((E.length:Int) - 1) then some ((⟨0,(⟨0,0,0,0⟩:Pallet),0,[],[],0,[]⟩:Request),D) else AA (ix E (AK ((E.length:Int) - 1))) λA=>bif !(A.toList==(⟨#[]⟩:ByteArray).toList) then some ((⟨0,(⟨0,0,0,0⟩:Pallet),0,[],[],0,[]⟩:Request),D) else some ((⟨V,(⟨Y,M,Ap,Z⟩:Pallet),Am,h,At,U,J⟩:Request),-1)
def HD (fu:Nat) (L:List ByteArray) (M Q N A J E:Int) (D:List Pair) (O:List Typ) (T:Int):Nat→List Item→Int→List Int→Bool→Option (Request×Int)|0=>λ_ _ _ _=>none|n+1=>M7 fu L M Q N A J E D O T (HD fu L M Q N A J E D O T n)
def MV fu E L U M e V Am Y (N:List Typ→Int→List Int→Bool→Option (Request×Int)) J D A O:=bif O then AA (ix A 0) λZ=>AA (ix A 1) λO=>AA (ix A 2) λT=>AA (ix A 3) λQ=>AA (ix A 4) λAt=>AA (ix A 5) λh=>AA (ix A 6) λA=>AA (BE 56 J [⟨Z,O,T,Q,At,h,A⟩]) λO=>AA (BV fu E (AK (D+1)) ⟨#[116,121,112,101]⟩ 7) λA=>N O (AK (D+1)) A.1 A.2 else AA (BV fu E D ⟨#[109,97,115,116,101,114]⟩ 1) λA=>bif !A.2 then some (⟨0,⟨0,0,0,0⟩,0,[],[],0,[]⟩,D) else AA (ix A.1 0) λN=>AA (BV fu E (AK (D+1)) ⟨#[105,116,101,109]⟩ 7) λA=>HD fu E L U M e V Am Y J N fu [] (AK (D+1)) A.1 A.2
def HB (fu:Nat) (E:List ByteArray) (N O M A D J:Int) (L:List Pair):Nat→List Typ→Int→List Int→Bool→Option (Request×Int)|0=>λ_ _ _ _=>none|n+1=>MV fu E N O M A D J L (HB fu E N O M A D J L n)
def VD fu D U O L V T Q (N:List Pair→Int→List Int→Bool→Option (Request×Int)) J A E M:=bif M then AA (ix E 0) λM=>AA (ix E 1) λE=>AA (BE 16 J [⟨M,E⟩]) λM=>AA (BV fu D (AK (A+1)) ⟨#[119,105,116,104]⟩ 2) λE=>N M (AK (A+1)) E.1 E.2 else AA (BV fu D A ⟨#[116,121,112,101]⟩ 7) λE=>HB fu D U O L V T Q J fu [] A E.1 E.2
def JO (fu:Nat) (E:List ByteArray) (M N L A D J:Int):Nat→List Pair→Int→List Int→Bool→Option (Request×Int)|0=>λ_ _ _ _=>none|n+1=>VD fu E M N L A D J (JO fu E M N L A D J n)
def FI fu D M:=AA (BV fu D 1 ⟨#[112,97,108,108,101,116]⟩ 4) λA=>bif !A.2 then some (⟨0,⟨0,0,0,0⟩,0,[],[],0,[]⟩,1) else AA (ix A.1 0) λL=>AA (ix A.1 1) λJ=>AA (ix A.1 2) λN=>AA (ix A.1 3) λO=>AA (BV fu D 2 ⟨#[99,108,97,115,115,101,115]⟩ 1) λA=>bif !A.2 then some (⟨0,⟨0,0,0,0⟩,0,[],[],0,[]⟩,2) else AA (ix A.1 0) λE=>AA (BV fu D 3 ⟨#[119,105,116,104]⟩ 2) λA=>JO fu D M L J N O E fu [] 3 A.1 A.2
def JN (fu:Nat) (A:List ByteArray):Option (Request×Int):=AA (ix A 0) λD=>bif D.toList==(⟨#[119,97,121,32,110,101,120,116]⟩:ByteArray).toList then FI fu A 1 else FI fu A 0
def J8 (fu:Nat) (A:ByteArray):Option (Request×Int):=AA (LY fu A 10) λA=>bif AK ((A.length:Int) - 1)>60 then some ((⟨0,(⟨0,0,0,0⟩:Pallet),0,[],[],0,[]⟩:Request),60) else bif AK ((A.length:Int) - 1)<1 then some ((⟨0,(⟨0,0,0,0⟩:Pallet),0,[],[],0,[]⟩:Request),0) else AA (ix A 0) λD=>bif !(D.toList==(⟨#[119,97,121,32,102,105,114,115,116]⟩:ByteArray).toList) then AA (ix A 0) λ_=>bif !(D.toList==(⟨#[119,97,121,32,110,101,120,116]⟩:ByteArray).toList) then some ((⟨0,(⟨0,0,0,0⟩:Pallet),0,[],[],0,[]⟩:Request),0) else JN fu A else JN fu A
def OB fu A:=AA (J8 fu A) λA=>bif A.2≥0 then some 1 else AA (EK fu A.1) λA=>some A
def NH (fu:Nat) (E:List Int→Int→Option (List Int)) (A:Int) (D:List Int):Option (List Int):=E D (AK (A+1))
def NJ (fu:Nat) (D:Bool→Int→Option (List Int)) (E:Int) (A:Bool):Option (List Int):=D A (AK (E+1))
def Rs (fu:Nat) (E:List Int→Int→Option (List Int)) (N:Request) (M:List Int) (A:Int) (L:Bool→Int→Option (List Int)) (J:Bool) (D:Int):Option (List Int):=bif D<N.fU.length then bif J then NJ fu L D true else AA (ix N.fU D) λN=>NJ fu L D (N.fO==A) else bif J then AA (BE 8 M [A]) λD=>NH fu E A D else NH fu E A M
def FU (fu:Nat) (E:List Int→Int→Option (List Int)) (J:Request) (D:List Int) (A:Int):Nat→Bool→Int→Option (List Int)|0=>λ_ _=>none|n+1=>Rs fu E J D A (FU fu E J D A n)
def Qu fu J E D A:=bif A<4 then FU fu E J D A fu false 0 else some D
def ES (fu:Nat) (A:Request):Nat→List Int→Int→Option (List Int)|0=>λ_ _=>none|n+1=>Qu fu A (ES fu A n)
def UG fu A:=AA (EK fu A) λD=>bif D != 0 then some [] else ES fu A fu [] 0
def UX (fu:Nat) (D:List Int) (E:Int) (J:Int→Option Bool) (A:Int):Option Bool:=bif A<D.length then AA (ix D A) λD=>bif D==E then some true else J (AK (A+1)) else some false
def KG (fu:Nat) (A:List Int) (D:Int):Nat→Int→Option Bool|0=>λ_=>none|n+1=>UX fu A D (KG fu A D n)
def PL fu A D:=KG fu A D fu 0
def Ud (fu:Nat) (A:Int→Option Bool) (D:Int):Option Bool:=A (AK (D+1))
def P7 fu L D J M A:=bif A<D.length then AA (ix D A) λE=>AA (GQ fu L E J) λN=>bif !N then some false else AA (ix D A) λ_=>AA (GQ fu L J E) λD=>bif !D then some false else Ud fu M A else some true
def G9 (fu:Nat) (D:List Pair) (E:List Int) (A:Int):Nat→Int→Option Bool|0=>λ_=>none|n+1=>P7 fu D E A (G9 fu D E A n)
def T5 fu A D E:=G9 fu A D E fu 0
def JZ (fu:Nat) (A:List (List Int)→Int→Option (List (List Int))) (E:Int) (D:List (List Int)):Option (List (List Int)):=A D (AK (E+1))
def PB (fu:Nat) (D:Int→Int→Option (List (List Int))) (E A:Int):Option (List (List Int)):=D A (AK (E - 1))
def SM fu L O J D M E A:=bif A≥0 then AA (ix J A) λN=>AA (T5 fu O N D) λN=>bif N then PB fu M A A else PB fu M A E else bif E<0 then AA (BE 24 J [[D]]) λA=>JZ fu L D A else AA (ix J E) λA=>AA (BE 8 A [D]) λA=>AA (ix J E) λ_=>JZ fu L D (DB J E A)
def GG (fu:Nat) (A:List (List Int)→Int→Option (List (List Int))) (D:List Pair) (J:List (List Int)) (E:Int):Nat→Int→Int→Option (List (List Int))|0=>λ_ _=>none|n+1=>SM fu A D J E (GG fu A D J E n)
def Tu fu L J E A D:=bif D<4 then AA (PL fu J D) λJ=>bif !J then JZ fu E D A else GG fu E L A D fu (-1) (AK (A.length - 1)) else some A
def FF (fu:Nat) (A:List Pair) (D:List Int):Nat→List (List Int)→Int→Option (List (List Int))|0=>λ_ _=>none|n+1=>Tu fu A D (FF fu A D n)
def Wa fu A D:=FF fu A D fu [] 0
def JH fu A:=AA (UG fu A) λD=>AA (Wa fu A.fT D) λA=>some A
def Q9 (fu:Nat) (J:List Int→Int→Option (List Int)) (M:Request) (A:Int) (L:List Int→Int→Option (List Int)) (E:List Int) (D:Int):Option (List Int):=AA (ix M.fU A) λM=>bif D<M.f9 then AA (BE 8 E [A]) λM=>L M (AK (D+1)) else J E (AK (A+1))
def I7 (fu:Nat) (A:List Int→Int→Option (List Int)) (E:Request) (D:Int):Nat→List Int→Int→Option (List Int)|0=>λ_ _=>none|n+1=>Q9 fu A E D (I7 fu A E D n)
def Qx fu E J A D:=bif D<E.fU.length then I7 fu J E D fu A 0 else some A
def FO (fu:Nat) (A:Request):Nat→List Int→Int→Option (List Int)|0=>λ_ _=>none|n+1=>Qx fu A (FO fu A n)
def C9 fu A:=FO fu A fu [] 0
def NI (fu:Nat) (A:List Int→Int→Option (List Int)) (E:Int) (D:List Int):Option (List Int):=A D (AK (E+1))
def PX fu (N:Request) M L J E D A:=bif A<J.length then AA (ix L M) λL=>AA (ix J A) λJ=>AA (ix N.fU J) λJ=>AA (PL fu L J.fO) λJ=>bif J then AA (BE 8 D [A]) λJ=>NI fu E A J else NI fu E A D else some D
def G3 (fu:Nat) (J:Request) (D:Int) (E:List (List Int)) (A:List Int):Nat→List Int→Int→Option (List Int)|0=>λ_ _=>none|n+1=>PX fu J D E A (G3 fu J D E A n)
def UQ fu A E:=AA (JH fu A) λD=>AA (A2 fu E 0 (AK (D.length - 1))) λJ=>bif !J then some [] else AA (C9 fu A) λJ=>G3 fu A E D J fu [] 0
def NC (fu:Nat) (A:List Int→Int→Option (List Int)) (E:Int) (D:List Int):Option (List Int):=A D (AK (E+1))
def QH fu (M:List Int) E J D A:=bif A<E.length then AA (ix E A) λL=>AA (A2 fu L 0 (AK (M.length - 1))) λM=>bif M then AA (ix E A) λ_=>AA (BE 8 D [L]) λE=>NC fu J A E else NC fu J A D else some D
def G8 (fu:Nat) (D A:List Int):Nat→List Int→Int→Option (List Int)|0=>λ_ _=>none|n+1=>QH fu D A (G8 fu D A n)
def Pe fu D A:=G8 fu D A fu [] 0
def K4 fu (J:Request) D A:=AA (A2 fu A 0 (AK (D.length - 1))) λE=>bif !E then some (⟨0,0,0,0,0,0,0⟩,false) else AA (ix D A) λA=>AA (ix J.fU A) λA=>some (A,true)
def VR (fu:Nat) (E D A:Int):Option Int:=some (AK (AK (E*D)*A))
def MP fu D A E:=AA (A2 fu D 0 2000) λJ=>bif !J then some 0 else AA (A2 fu A 0 2000) λJ=>bif !J then some 0 else AA (A2 fu E 0 2000) λJ=>bif !J then some 0 else VR fu D A E
def XO (fu:Nat) (D:L7→Int→Option L7) (E:Int) (A:L7):Option L7:=D A (AK (E+1))
def XG fu J (D:L7) E (A:Item):=AA (MP fu A.fW A.fH A.fD) λL=>XO fu J E ⟨AK (D.fvol+L),AK (D.fgram+A.fQ)⟩
def VQ fu M J D L E A:=bif A<D.length then AA (ix D A) λD=>AA (K4 fu M J D) λD=>XG fu L E A D.1 else some E
def IX (fu:Nat) (E:Request) (A D:List Int):Nat→L7→Int→Option L7|0=>λ_ _=>none|n+1=>VQ fu E A D (IX fu E A D n)
def TO fu A E D:=IX fu A E D fu ⟨0,0⟩ 0
def VP (fu:Nat) (A:Typ) (D:L7):Option Bool:=AA (MP fu A.fW A.fH A.fD) λE=>bif D.fvol≤E then some (D.fgram≤A.fQ) else some false
def RS fu L D E A J:=AA (BE 8 [] A) λA=>AA (BE 8 A [J]) λA=>AA (TO fu L D A) λA=>VP fu E A
def LA (fu:Nat) (A:List (List Int)→Int→Option (List (List Int))) (E:Int) (D:List (List Int)):Option (List (List Int)):=A D (AK (E+1))
def SO (fu:Nat) (Q:Request) (E:List Int) (O:Typ×Bool) (N:List Int) (J:List (List Int)→Int→Option (List (List Int))) (A:List (List Int)) (D:Int):Option (List (List Int)):=bif D<(E.length:Int) then bif (A.length:Int)>0 then AA (ix A (AK ((A.length:Int) - 1))) λM=>AA (ix E D) λL=>AA (RS fu Q N O.1 M L) λN=>bif N then AA (ix A (AK ((A.length:Int) - 1))) λ_=>AA (ix E D) λ_=>AA (BE 8 M ([L]:List Int)) λM=>AA (ix A (AK ((A.length:Int) - 1))) λ_=>LA fu J D (DB A (AK ((A.length:Int) - 1)) M) else AA (ix E D) λ_=>AA (BE 24 A [([L]:List Int)]) λL=>LA fu J D L else AA (ix E D) λE=>AA (BE 24 A [([E]:List Int)]) λE=>LA fu J D E else some A
def H3 (fu:Nat) (J:Request) (D:List Int) (A:Typ×Bool) (E:List Int):Nat→List (List Int)→Int→Option (List (List Int))|0=>λ_ _=>none|n+1=>SO fu J D A E (H3 fu J D A E n)
def Yt fu A E:=AA (HO fu A) λD=>AA (C9 fu A) λJ=>H3 fu A E D J fu [] 0
def Un fu A E:=AA (EK fu A) λD=>bif D != 0 then some [] else AA (C9 fu A) λD=>AA (Pe fu D E) λD=>AA (Yt fu A D) λA=>some A
def JE fu A:=AA (MD fu A.length) λD=>AA (OY fu A D true) λA=>some A
def NP (fu:Nat) (A:List (List Int)→Int→Option (List (List Int))) (D:Int) (E:List (List Int)):Option (List (List Int)):=A E (AK (D+1))
def ND (fu:Nat) (D:Int→Int→Option (List (List Int))) (E A:Int):Option (List (List Int)):=D A (AK (E - 1))
def QO fu L U (Q:Typ×Bool) T D N J M A E:=bif E≥0 then AA (ix D E) λO=>AA (RS fu U T Q.1 O J) λO=>bif O then ND fu M E E else ND fu M E A else bif A<0 then AA (BE 24 D [[J]]) λE=>NP fu L N E else AA (ix D A) λE=>AA (BE 8 E [J]) λE=>AA (ix D A) λ_=>NP fu L N (DB D A E)
def GV (fu:Nat) (L:List (List Int)→Int→Option (List (List Int))) (N:Request) (D:Typ×Bool) (J:List Int) (M:List (List Int)) (A E:Int):Nat→Int→Int→Option (List (List Int))|0=>λ_ _=>none|n+1=>QO fu L N D J M A E (GV fu L N D J M A E n)
def Rv fu O L N J E M A D:=bif D<E.length then AA (ix E D) λE=>AA (ix L E) λE=>GV fu M O N J A D E fu (-1) (AK (A.length - 1)) else some A
def DK (fu:Nat) (L:Request) (D:List Int) (A:Typ×Bool) (J E:List Int):Nat→List (List Int)→Int→Option (List (List Int))|0=>λ_ _=>none|n+1=>Rv fu L D A J E (DK fu L D A J E n)
def P5 fu L D O J (N:List Int→Int→Option (List (List Int))) E A:=bif A<D.length then AA (RA D A (AK (A+1))) λM=>AA (TO fu L J M) λM=>AA (BE 8 E [M.fvol]) λM=>N M (AK (A+1)) else AA (JE fu E) λA=>DK fu L D O J A fu [] 0
def Jt (fu:Nat) (J:Request) (D:List Int) (A:Typ×Bool) (E:List Int):Nat→List Int→Int→Option (List (List Int))|0=>λ_ _=>none|n+1=>P5 fu J D A E (Jt fu J D A E n)
def XL fu A E:=AA (HO fu A) λD=>AA (C9 fu A) λJ=>Jt fu A E D J fu [] 0
def RW fu A E:=AA (EK fu A) λD=>bif D != 0 then some [] else AA (C9 fu A) λD=>AA (Pe fu D E) λD=>AA (XL fu A D) λA=>some A
def UF fu A D:=bif A.fc==1 then AA (Un fu A D) λE=>some E else AA (RW fu A D) λA=>some A
def W0 (fu:Nat) (J:Request) (D:List Int) (A:Typ) (E:List Int):Option Bool:=AA (TO fu J E D) λD=>AA (MP fu A.fW A.fH A.fD) λE=>bif D.fvol≤E then some (D.fgram≤A.fQ) else some false
def WN (fu:Nat) (A:Int→Option Bool) (D:Int):Option Bool:=A (AK (D+1))
def WY fu A E J L D:=bif !D then some false else AA (TN fu L E) λD=>bif !D then some false else WN fu A J
def Uo fu M D E L N A:=bif A<D.length then AA (ix D A) λJ=>AA (K4 fu M L J) λJ=>WY fu N E A J.1 J.2 else W0 fu M D E L
def HL (fu:Nat) (J:Request) (A:List Int) (D:Typ) (E:List Int):Nat→Int→Option Bool|0=>λ_=>none|n+1=>Uo fu J A D E (HL fu J A D E n)
def UP fu A E J:=AA (EK fu A) λD=>bif D != 0 then some false else AA (C9 fu A) λD=>HL fu A E J D fu 0
def E9 (fu:Nat) (A:Typ→Bool→Int→Option (Typ×Bool)) (J:Int) (D:Typ) (E:Bool):Option (Typ×Bool):=A D E (AK (J+1))
def N5 fu M N J D L A:=bif A<M.fG.length then AA (ix M.fG A) λE=>AA (UP fu M N E) λM=>bif !M then E9 fu J A D L else bif !L then E9 fu J A E true else bif E.fd<D.fd then E9 fu J A E true else bif E.fd==D.fd then bif E.fe<D.fe then E9 fu J A E true else E9 fu J A D L else E9 fu J A D L else some (D,L)
def GD (fu:Nat) (D:Request) (A:List Int):Nat→Typ→Bool→Int→Option (Typ×Bool)|0=>λ_ _ _=>none|n+1=>N5 fu D A (GD fu D A n)
def MK fu D A:=GD fu D A fu ⟨0,0,0,0,0,0,0⟩ false 0
def QQ (fu:Nat) (A:List Carton→Int→Option (List Carton)) (E:Int) (D:List Carton):Option (List Carton):=A D (AK (E+1))
def K8 (fu:Nat) (E:List Carton→Int→Option (List Carton)) (D:Int) (A:List Carton):Option (List Carton):=E A (AK (D+1))
def M9 fu O L M T D (N:Typ) J (Q:List Int→Int→Option (List Carton)) E A:=bif A<J.length then AA (ix M D) λM=>AA (ix J A) λJ=>AA (ix M J) λJ=>AA (BE 8 E [J]) λJ=>Q J (AK (A+1)) else AA (BE 40 T [⟨N.fe,L,E⟩]) λA=>K8 fu O D A
def HH (fu:Nat) (A:List Carton→Int→Option (List Carton)) (N:Int) (L:List (List Int)) (D:List Carton) (M:Int) (E:Typ) (J:List Int):Nat→List Int→Int→Option (List Carton)|0=>λ_ _=>none|n+1=>M9 fu A N L D M E J (HH fu A N L D M E J n)
def QA fu M L D N A J:=AA (ix D A) λE=>AA (RO fu E) λE=>HH fu M L D N A J E fu [] 0
def Nq fu N O E D M J A:=bif A<D.length then AA (ix D A) λL=>AA (MK fu O L) λL=>QA fu M E D J A L.1 else QQ fu N E J
def CT (fu:Nat) (D:List Carton→Int→Option (List Carton)) (J:Request) (A:Int) (E:List (List Int)):Nat→List Carton→Int→Option (List Carton)|0=>λ_ _=>none|n+1=>Nq fu D J A E (CT fu D J A E n)
def M6 (fu:Nat) (D:Request) (J:List (List Int)) (L:List Carton→Int→Option (List Carton)) (E:List Carton) (A:Int):Option (List Carton):=bif A<J.length then AA (UQ fu D A) λJ=>AA (UF fu D J) λJ=>CT fu L D A J fu E 0 else some E
def BQ (fu:Nat) (D:Request) (A:List (List Int)):Nat→List Carton→Int→Option (List Carton)|0=>λ_ _=>none|n+1=>M6 fu D A (BQ fu D A n)
def PK fu A:=AA (JH fu A) λD=>BQ fu A D fu [] 0
def N4 (fu:Nat) (D:Request) (L:Int) (J:Int→Option (Typ×Bool)) (A:Int):Option (Typ×Bool):=bif A<D.fG.length then AA (ix D.fG A) λE=>bif E.fe==L then AA (ix D.fG A) λ_=>some (E,true) else J (AK (A+1)) else some (⟨0,0,0,0,0,0,0⟩,false)
def H2 (fu:Nat) (D:Request) (A:Int):Nat→Int→Option (Typ×Bool)|0=>λ_=>none|n+1=>N4 fu D A (H2 fu D A n)
def KF fu D A:=H2 fu D A fu 0
def Xu fu A:=AA (EK fu A) λD=>bif D != 0 then some [] else AA (C9 fu A) λA=>some A
def VF (fu:Nat) (D:Int→Int→Option Int) (A E:Int):Option Int:=D E (AK (A+1))
def VO fu E A D (J:Item):=VF fu E D (AK (A+J.fQ))
def TL fu M D J L E A:=bif A<D.length then AA (ix D A) λD=>AA (K4 fu M J D) λD=>VO fu L E A D.1 else some E
def GF (fu:Nat) (E:Request) (D:List Int) (A:List Int):Nat→Int→Int→Option Int|0=>λ_ _=>none|n+1=>TL fu E D A (GF fu E D A n)
def Wx fu A D:=AA (Xu fu A) λE=>GF fu A D E fu 0 0
def WW fu E (D:Carton) (A:Typ×Bool):=AA (Wx fu E D.fK) λD=>some (AK (A.1.ff+D))
def Vs fu A E:=AA (KF fu A E.f8) λD=>AA (EK fu A) λJ=>bif J != 0 then some 0 else bif !D.2 then some 0 else WW fu A E D
def WZ (fu:Nat) (E:Request) (D:Carton) (A:Typ×Bool):Option Box:=AA (Vs fu E D) λD=>some ⟨A.1.fW,A.1.fD,A.1.fH,D⟩
def L0 fu A E:=AA (KF fu A E.f8) λD=>AA (EK fu A) λJ=>bif J != 0 then some ⟨0,0,0,0⟩ else bif !D.2 then some ⟨0,0,0,0⟩ else WZ fu A E D
def UB (fu:Nat) (A:Int→Option Bool) (D:Int):Option Bool:=A (AK (D+1))
def P9 (fu:Nat) (D:Pallet) (A:List Box) (J:Int→Option Bool) (E:Int):Option Bool:=bif E<A.length then AA (ix A E) λA=>AA (A2 fu A.fW 1 D.fW) λL=>bif !L then some false else AA (A2 fu A.fD 1 D.fD) λL=>bif !L then some false else AA (A2 fu A.fH 1 D.fH) λL=>bif !L then some false else AA (A2 fu A.fQ 1 D.fQ) λA=>bif !A then some false else UB fu J E else some true
def G5 (fu:Nat) (A:Pallet) (D:List Box):Nat→Int→Option Bool|0=>λ_=>none|n+1=>P9 fu A D (G5 fu A D n)
def OS fu A D:=AA (JF fu A) λE=>bif !E then some false else G5 fu A D fu 0
def LW (fu:Nat) (A D:Int):Option Int:=bif A>D then some A else some D
def IR (fu:Nat) (A:Shelf) (J:Int) (D:Box):Option Shelf:=AA (BE 8 [] A.f7) λE=>AA (BE 8 E [J]) λL=>AA (LW fu A.fD D.fD) λE=>AA (LW fu A.fH D.fH) λJ=>some ⟨L,AK (A.fW+D.fW),E,J,AK (A.fQ+D.fQ)⟩
def Jn (fu:Nat) (A:List Shelf→Int→Option (List Shelf)) (E:Int) (D:List Shelf):Option (List Shelf):=A D (AK (E+1))
def Rl (fu:Nat) (O:Pallet) (J:List Box) (E:List Int) (M:List Shelf→Int→Option (List Shelf)) (A:List Shelf) (D:Int):Option (List Shelf):=bif D<(E.length:Int) then AA (ix E D) λL=>AA (ix J L) λJ=>bif (A.length:Int)>0 then AA (ix A (AK ((A.length:Int) - 1))) λN=>bif AK (N.fW+J.fW)≤O.fW then AA (ix A (AK ((A.length:Int) - 1))) λ_=>bif AK (N.fQ+J.fQ)≤O.fQ then AA (ix A (AK ((A.length:Int) - 1))) λ_=>AA (ix E D) λ_=>AA (IR fu N L J) λN=>AA (ix A (AK ((A.length:Int) - 1))) λ_=>Jn fu M D (DB A (AK ((A.length:Int) - 1)) N) else AA (ix E D) λ_=>AA (IR fu (⟨[],0,0,0,0⟩:Shelf) L J) λN=>AA (BE 56 A [N]) λN=>Jn fu M D N else AA (ix E D) λ_=>AA (IR fu (⟨[],0,0,0,0⟩:Shelf) L J) λN=>AA (BE 56 A [N]) λN=>Jn fu M D N else AA (ix E D) λ_=>AA (IR fu (⟨[],0,0,0,0⟩:Shelf) L J) λE=>AA (BE 56 A [E]) λE=>Jn fu M D E else some A
def FM (fu:Nat) (E:Pallet) (D:List Box) (A:List Int):Nat→List Shelf→Int→Option (List Shelf)|0=>λ_ _=>none|n+1=>Rl fu E D A (FM fu E D A n)
def QU fu M D (L:List Int→Int→Option (List Shelf)) E A:=bif A<D.length then AA (ix D A) λJ=>AA (BE 8 E [J.fD]) λJ=>L J (AK (A+1)) else AA (JE fu E) λA=>FM fu M D A fu [] 0
def I3 (fu:Nat) (A:Pallet) (D:List Box):Nat→List Int→Int→Option (List Shelf)|0=>λ_ _=>none|n+1=>QU fu A D (I3 fu A D n)
def T2 fu A D:=AA (OS fu A D) λE=>bif !E then some [] else I3 fu A D fu [] 0
def UY fu (A:Pallet) D E J:=AA (A2 fu D 1 A.fD) λD=>bif D then AA (A2 fu E 1 A.fH) λD=>bif D then AA (A2 fu J 1 A.fQ) λA=>some A else some false else some false
def M0 (fu:Nat) (L:Pallet) (D:List Shelf) (J:Int→Option Bool) (A:Int):Option Bool:=bif A<D.length then AA (ix D A) λE=>AA (ix D A) λ_=>AA (ix D A) λ_=>AA (UY fu L E.fD E.fH E.fQ) λD=>bif !D then some false else J (AK (A+1)) else some true
def HK (fu:Nat) (A:Pallet) (D:List Shelf):Nat→Int→Option Bool|0=>λ_=>none|n+1=>M0 fu A D (HK fu A D n)
def Ps fu A D:=AA (JF fu A) λE=>bif !E then some false else HK fu A D fu 0
def S1 (fu:Nat) (D:List Layer→Int→Option (List Layer)) (A:Int) (E:List Layer):Option (List Layer):=D E (AK (A+1))
def D8 fu O L (D:Shelf) E J:=AA (ix E (AK (J - 1))) λA=>AA (BE 8 [] A.fM) λM=>AA (BE 8 M [L]) λM=>AA (LW fu A.fH D.fH) λN=>AA (ix E (AK (J - 1))) λ_=>S1 fu O L (DB E (AK (J - 1)) ⟨M,AK (A.fD+D.fD),N,AK (A.fQ+D.fQ)⟩)
def OX (fu:Nat) (L:Pallet) (E:List Shelf) (J:List Layer→Int→Option (List Layer)) (A:List Layer) (D:Int):Option (List Layer):=bif D<(E.length:Int) then AA (ix E D) λE=>bif (A.length:Int)==0 then AA (BE 48 A [(⟨[],0,0,0⟩:Layer)]) λM=>D8 fu J D E M (AK ((A.length:Int)+1)) else AA (ix A (AK ((A.length:Int) - 1))) λM=>bif AK (M.fD+E.fD)>L.fD then AA (BE 48 A [(⟨[],0,0,0⟩:Layer)]) λN=>D8 fu J D E N (AK ((A.length:Int)+1)) else AA (ix A (AK ((A.length:Int) - 1))) λ_=>bif AK (M.fQ+E.fQ)>L.fQ then AA (BE 48 A [(⟨[],0,0,0⟩:Layer)]) λL=>D8 fu J D E L (AK ((A.length:Int)+1)) else D8 fu J D E A (A.length:Int) else some A
def B2 (fu:Nat) (A:Pallet) (D:List Shelf):Nat→List Layer→Int→Option (List Layer)|0=>λ_ _=>none|n+1=>OX fu A D (B2 fu A D n)
def R1 fu A D:=AA (Ps fu A D) λE=>bif !E then some [] else B2 fu A D fu [] 0
def OW (fu:Nat) (L:Pallet) (D:List Layer) (J:Int→Option Bool) (A:Int):Option Bool:=bif A<D.length then AA (ix D A) λE=>AA (ix D A) λ_=>AA (ix D A) λ_=>AA (UY fu L E.fD E.fH E.fQ) λD=>bif !D then some false else J (AK (A+1)) else some true
def H8 (fu:Nat) (A:Pallet) (D:List Layer):Nat→Int→Option Bool|0=>λ_=>none|n+1=>OW fu A D (H8 fu A D n)
def R2 fu A D:=AA (JF fu A) λE=>bif !E then some false else H8 fu A D fu 0
def TX (fu:Nat) (D:List Load→Int→Option (List Load)) (A:Int) (E:List Load):Option (List Load):=D E (AK (A+1))
def EM fu N J (L:Layer) E D:=AA (ix E (AK (D - 1))) λA=>AA (BE 8 [] A.f0) λM=>AA (BE 8 M [J]) λM=>AA (ix E (AK (D - 1))) λ_=>TX fu N J (DB E (AK (D - 1)) ⟨M,AK (A.fH+L.fH),AK (A.fQ+L.fQ)⟩)
def P4 (fu:Nat) (L:Pallet) (D:List Layer) (J:List Load→Int→Option (List Load)) (A:List Load) (E:Int):Option (List Load):=bif E<(D.length:Int) then AA (ix D E) λD=>bif (A.length:Int)==0 then AA (BE 40 A [(⟨[],0,0⟩:Load)]) λM=>EM fu J E D M (AK ((A.length:Int)+1)) else AA (ix A (AK ((A.length:Int) - 1))) λM=>bif AK (M.fH+D.fH)>L.fH then AA (BE 40 A [(⟨[],0,0⟩:Load)]) λN=>EM fu J E D N (AK ((A.length:Int)+1)) else AA (ix A (AK ((A.length:Int) - 1))) λ_=>bif AK (M.fQ+D.fQ)>L.fQ then AA (BE 40 A [(⟨[],0,0⟩:Load)]) λL=>EM fu J E D L (AK ((A.length:Int)+1)) else EM fu J E D A (A.length:Int) else some A
def B8 (fu:Nat) (A:Pallet) (D:List Layer):Nat→List Load→Int→Option (List Load)|0=>λ_ _=>none|n+1=>P4 fu A D (B8 fu A D n)
def U2 fu A D:=AA (R2 fu A D) λE=>bif !E then some [] else B8 fu A D fu [] 0
def P6 (fu:Nat) (O:List Spot→Int→Int→Option (List Spot)) (N:List Box) (V U L T:Int) (D:Shelf) (Q:List Spot→Int→Int→Option (List Spot)) (J:List Spot) (M A:Int):Option (List Spot):=bif A<D.f7.length then AA (ix D.f7 A) λE=>AA (ix J E) λ_=>AA (ix D.f7 A) λ_=>AA (ix N E) λN=>Q (DB J E ⟨V,M,L,U⟩) (AK (M+N.fW)) (AK (A+1)) else O J (AK (L+D.fD)) (AK (T+1))
def I9 (fu:Nat) (L:List Spot→Int→Int→Option (List Spot)) (D:List Box) (E A N J:Int) (M:Shelf):Nat→List Spot→Int→Int→Option (List Spot)|0=>λ_ _ _=>none|n+1=>P6 fu L D E A N J M (I9 fu L D E A N J M n)
def QY (fu:Nat) (Q:List Spot→Int→Int→Option (List Spot)) (V:List Box) (U:List Shelf) (L E M:Int) (D:Layer) (T:List Spot→Int→Int→Option (List Spot)) (J:List Spot) (O A:Int):Option (List Spot):=bif A<D.fM.length then AA (ix D.fM A) λN=>AA (ix U N) λN=>I9 fu T V L E O A N fu J 0 0 else Q J (AK (E+D.fH)) (AK (M+1))
def EP (fu:Nat) (M:List Spot→Int→Int→Option (List Spot)) (D:List Box) (N:List Shelf) (J L E:Int) (A:Layer):Nat→List Spot→Int→Int→Option (List Spot)|0=>λ_ _ _=>none|n+1=>QY fu M D N J L E A (EP fu M D N J L E A n)
def P8 (fu:Nat) (O:List Spot→Int→Option (List Spot)) (U:List Box) (T:List Shelf) (M:List Layer) (J:List Load) (A:Int) (Q:List Spot→Int→Int→Option (List Spot)) (L:List Spot) (N D:Int):Option (List Spot):=AA (ix J A) λE=>bif D<E.f0.length then AA (ix J A) λ_=>AA (ix E.f0 D) λE=>AA (ix M E) λE=>EP fu Q U T A N D E fu L 0 0 else O L (AK (A+1))
def C6 (fu:Nat) (L:List Spot→Int→Option (List Spot)) (D:List Box) (A:List Shelf) (M:List Layer) (J:List Load) (E:Int):Nat→List Spot→Int→Int→Option (List Spot)|0=>λ_ _ _=>none|n+1=>P8 fu L D A M J E (C6 fu L D A M J E n)
def Qk fu N M J D L E A:=bif A<D.length then C6 fu L N M J D A fu E 0 0 else some E
def B3 (fu:Nat) (A:List Box) (J:List Shelf) (E:List Layer) (D:List Load):Nat→List Spot→Int→Option (List Spot)|0=>λ_ _=>none|n+1=>Qk fu A J E D (B3 fu A J E D n)
def N1 fu D A:=AA (mk 32 ⟨(0:Int),(0:Int),(0:Int),(0:Int)⟩ A.length) λL=>AA (OS fu D A) λE=>bif !E then some [] else AA (T2 fu D A) λE=>AA (R1 fu D E) λJ=>AA (U2 fu D J) λD=>B3 fu A E J D fu L 0
def NM (fu:Nat) (A:Int→Int→Option Int) (D E:Int):Option Int:=A E (AK (D+1))
def Ro (fu:Nat) (D:List Spot) (J:Int→Int→Option Int) (E A:Int):Option Int:=bif A<D.length then AA (ix D A) λL=>AA (A2 fu L.fJ 0 999999) λM=>bif M then AA (ix D A) λ_=>AA (LW fu E (AK (L.fJ+1))) λD=>NM fu J A D else NM fu J A E else some E
def Ha (fu:Nat) (A:List Spot):Nat→Int→Int→Option Int|0=>λ_ _=>none|n+1=>Ro fu A (Ha fu A n)
def N2 fu A:=Ha fu A fu 0 0
def PQ (fu:Nat) (A:List Box→Int→Option (Plan×Bool)) (D:Int) (E:List Box):Option (Plan×Bool):=A E (AK (D+1))
def TD fu (M:List Spot→Int→Int→Option (Plan×Bool)) J N D (O:List Spot→Int→Option (Plan×Bool)) L E:=bif E<D.length then AA (ix D E) λA=>AA (BE 32 L [⟨AK (A.fJ+J),A.fX,A.fY,A.fZ⟩]) λA=>O A (AK (E+1)) else AA (N2 fu D) λA=>M L (AK (J+A)) (AK (N+1))
def IA (fu:Nat) (J:List Spot→Int→Int→Option (Plan×Bool)) (A D:Int) (E:List Spot):Nat→List Spot→Int→Option (Plan×Bool)|0=>λ_ _=>none|n+1=>TD fu J A D E (IA fu J A D E n)
def TK fu O N D T Q L M E A:=bif A<D.length then AA (ix D A) λJ=>bif J.fF==L then AA (ix D A) λ_=>AA (L0 fu N J) λD=>AA (BE 32 E [D]) λD=>PQ fu M A D else PQ fu M A E else AA (N1 fu N.fJ E) λA=>IA fu O Q L A fu T 0
def H1 (fu:Nat) (E:List Spot→Int→Int→Option (Plan×Bool)) (M:Request) (J:List Carton) (D:List Spot) (L A:Int):Nat→List Box→Int→Option (Plan×Bool)|0=>λ_ _=>none|n+1=>TK fu E M J D L A (H1 fu E M J D L A n)
def Tt (fu:Nat) (N:Request) (E:List Carton) (M:List (List Int)) (J:List Spot→Int→Int→Option (Plan×Bool)) (D:List Spot) (L A:Int):Option (Plan×Bool):=bif A<M.length then H1 fu J N E D L A fu [] 0 else some (⟨E,D⟩,true)
def CY (fu:Nat) (E:Request) (D:List Carton) (A:List (List Int)):Nat→List Spot→Int→Int→Option (Plan×Bool)|0=>λ_ _ _=>none|n+1=>Tt fu E D A (CY fu E D A n)
def RC fu A:=AA (EK fu A) λD=>bif D != 0 then some (⟨[],[]⟩,false) else AA (PK fu A) λD=>AA (JH fu A) λE=>CY fu A D E fu [] 0 0
def K9 (fu:Nat) (D:Int→Option Bool) (A:Int):Option Bool:=D (AK (A+1))
def MZ (fu:Nat) (D:Carton) (J:Int→Option Bool) (A:Int):Option Bool:=bif A<D.fK.length then AA (ix D.fK A) λE=>AA (A2 fu E 0 999) λL=>bif !L then some false else bif A>0 then AA (ix D.fK A) λ_=>AA (ix D.fK (AK (A - 1))) λD=>bif E≤D then some false else K9 fu J A else K9 fu J A else some true
def FK (fu:Nat) (A:Carton):Nat→Int→Option Bool|0=>λ_=>none|n+1=>MZ fu A (FK fu A n)
def PZ fu A:=FK fu A fu 0
def PD (fu:Nat) (A:Carton):Option Bool:=AA (N7 fu A.f8) λD=>bif !D then some false else AA (A2 fu A.fF 0 3) λD=>bif !D then some false else bif (A.fK.length:Int)>100 then some false else PZ fu A
def VJ (fu:Nat) (D:Int→Option Bool) (A:Int):Option Bool:=D (AK (A+1))
def ST (fu:Nat) (E:Plan) (J:Int→Option Bool) (D:Int):Option Bool:=bif D<E.fV.length then AA (ix E.fE D) λA=>AA (ix E.fV D) λE=>AA (PD fu E) λE=>bif !E then some false else AA (A2 fu A.fJ 0 2000) λE=>bif !E then some false else AA (A2 fu A.fX 0 2000) λE=>bif !E then some false else AA (A2 fu A.fY 0 2000) λE=>bif !E then some false else AA (A2 fu A.fZ 0 2000) λA=>bif !A then some false else VJ fu J D else some true
def II (fu:Nat) (A:Plan):Nat→Int→Option Bool|0=>λ_=>none|n+1=>ST fu A (II fu A n)
def V4 fu A:=II fu A fu 0
def IQ (fu:Nat) (A:Plan):Option Bool:=bif (A.fV.length:Int) != (A.fE.length:Int) then some false else bif (A.fV.length:Int)>100 then some false else V4 fu A
def QS fu E (J:ByteArray→Int→Option ByteArray) D A:=bif A<E.length then AA (NY D ⟨#[32]⟩) λL=>AA (ix E A) λE=>AA (KZ fu E) λE=>AA (NY L E) λE=>J E (AK (A+1)) else some D
def FQ (fu:Nat) (A:List Int):Nat→ByteArray→Int→Option ByteArray|0=>λ_ _=>none|n+1=>QS fu A (FQ fu A n)
def LB fu (D:Carton) (A:Spot):=AA (BE 8 [D.f8,D.fF,A.fJ,A.fX,A.fY,A.fZ] D.fK) λA=>FQ fu A fu ⟨#[99,97,114,116,111,110]⟩ 0
def OJ (fu:Nat) (D:Plan) (J:ByteArray→Int→Option ByteArray) (E:ByteArray) (A:Int):Option ByteArray:=bif A<D.fV.length then AA (ix D.fV A) λL=>AA (ix D.fE A) λD=>AA (LB fu L D) λD=>AA (NY E D) λD=>AA (NY D ⟨#[10]⟩) λD=>J D (AK (A+1)) else some E
def F9 (fu:Nat) (A:Plan):Nat→ByteArray→Int→Option ByteArray|0=>λ_ _=>none|n+1=>OJ fu A (F9 fu A n)
def MJ fu A:=AA (IQ fu A) λD=>bif !D then some ⟨#[]⟩ else F9 fu A fu ⟨#[]⟩ 0
def WJ fu D:=AA (OB fu D) λA=>bif A != 0 then some (⟨#[]⟩,A) else AA (J8 fu D) λA=>AA (RC fu A.1) λA=>AA (MJ fu A.1) λA=>some (A,0)
def U4 (fu:Nat) (E:Cur) (L:ByteArray):Option (ByteArray×Cur):=AA (qy L) λD=>AA (AY fu E (AK (D.length+1))) λJ=>AA (AY fu ⟨E.fb,J.2.fi,J.2.fh⟩ 7) λA=>bif A.1==0 then AA (RA D 0 J.1) λM=>AA (Zp M) λM=>some (M,⟨E.fb,A.2.fi,A.2.fh⟩) else bif A.1==1 then AA (RA D 0 J.1) λM=>AA (Zp M) λN=>AA (RA D J.1 D.length) λM=>AA (Zp M) λO=>AA (MS fu ⟨E.fb,A.2.fi,A.2.fh⟩ [⟨#[32]⟩,⟨#[48]⟩,⟨#[49]⟩,⟨#[120]⟩,⟨#[10]⟩,⟨#[32,51]⟩]) λM=>AA (NY N M.1) λN=>AA (NY N O) λN=>some (N,⟨E.fb,M.2.fi,M.2.fh⟩) else bif A.1==2 then bif J.1<D.length then AA (RA D 0 J.1) λM=>AA (Zp M) λM=>AA (RA D (AK (J.1+1)) D.length) λD=>AA (Zp D) λD=>AA (NY M D) λD=>some (D,⟨E.fb,A.2.fi,A.2.fh⟩) else some (L,⟨E.fb,A.2.fi,A.2.fh⟩) else some (L,⟨E.fb,A.2.fi,A.2.fh⟩)
def Pm fu D:=AA (L6 fu D) λA=>AA (JX fu ⟨D,A.fi,A.fh⟩ 2) λA=>bif A.1 then AA (RU fu ⟨D,A.2.fi,A.2.fh⟩) λE=>some E.1 else AA (RT fu ⟨D,A.2.fi,A.2.fh⟩) λA=>some A.1
def WO (fu:Nat) (A:Carton):Option Carton:=AA (BE 8 [] A.fK) λD=>some ⟨A.f8,A.fF,D⟩
def C3 (fu:Nat) (E:Request) (A:List Carton) (D:List Spot):Option (Request×Plan):=some (E,⟨A,D⟩)
def T4 (fu:Nat) (L:List U8):Option (Request×Plan):=AA (Pm fu L) λJ=>AA (RC fu J) λA=>AA (L6 fu L) λD=>bif (A.1.fV.length:Int)==0 then some (J,A.1) else AA (AY fu (⟨L,D.fi,D.fh⟩:Cur) (A.1.fV.length:Int)) λE=>AA (AY fu (⟨L,E.2.fi,E.2.fh⟩:Cur) 14) λD=>bif D.1==0 then AA (ix A.1.fE E.1) λM=>AA (ix A.1.fE E.1) λ_=>C3 fu J A.1.fV (DB A.1.fE E.1 ({ M with fX:=AK (M.fX+1) })) else bif D.1==1 then AA (AY fu (⟨L,D.2.fi,D.2.fh⟩:Cur) 3) λM=>AA (ix A.1.fE E.1) λN=>C3 fu J A.1.fV (DB A.1.fE E.1 ({ N with fJ:=M.1 })) else bif D.1==2 then AA (CA fu (⟨L,D.2.fi,D.2.fh⟩:Cur) ([7,10,11,99,-1]:List Int)) λN=>AA (ix A.1.fV E.1) λM=>C3 fu J (DB A.1.fV E.1 (⟨N.1,M.fF,M.fK⟩:Carton)) A.1.fE else bif D.1==3 then AA (ix A.1.fV E.1) λM=>AA (AY fu (⟨L,D.2.fi,D.2.fh⟩:Cur) 14) λN=>AA (BE 8 M.fK ([AK (N.1 - 1)]:List Int)) λN=>AA (ix A.1.fV E.1) λ_=>C3 fu J (DB A.1.fV E.1 (⟨M.f8,M.fF,N⟩:Carton)) A.1.fE else bif D.1==4 then AA (ix A.1.fV E.1) λM=>C3 fu J (DB A.1.fV E.1 (⟨M.f8,M.fF,[]⟩:Carton)) A.1.fE else bif D.1==5 then AA (RA A.1.fE 1 (A.1.fE.length:Int)) λM=>C3 fu J A.1.fV M else bif D.1==6 then AA (AY fu (⟨L,D.2.fi,D.2.fh⟩:Cur) 6) λN=>AA (ix A.1.fV E.1) λM=>C3 fu J (DB A.1.fV E.1 (⟨M.f8,AK (N.1 - 1),M.fK⟩:Carton)) A.1.fE else bif D.1==7 then AA (ix A.1.fV E.1) λM=>AA (WO fu M) λM=>AA (BE 40 A.1.fV [M]) λN=>AA (BE 32 A.1.fE ([(⟨9,0,0,0⟩:Spot)]:List Spot)) λM=>C3 fu J N M else bif D.1==8 then AA (CA fu (⟨L,D.2.fi,D.2.fh⟩:Cur) ([0,2000,2001,-1]:List Int)) λL=>AA (ix A.1.fE E.1) λD=>C3 fu J A.1.fV (DB A.1.fE E.1 ({ D with fZ:=L.1 })) else C3 fu J A.1.fV A.1.fE
def Nx fu A:=AA (L6 fu A) λD=>AA (JX fu ⟨A,D.fi,D.fh⟩ 4) λD=>bif D.1 then AA (Sn fu A) λE=>AA (WJ fu E) λJ=>AA (U4 fu ⟨A,D.2.fi,D.2.fh⟩ J.1) λD=>some (E,D.1) else AA (T4 fu A) λA=>AA (J7 fu A.1) λD=>AA (MJ fu A.2) λA=>some (D,A)
def SB (fu:Nat) (A:List ByteArray→Int→Int→Option (List ByteArray)) (E:Int) (J:List ByteArray) (D:Int):Option (List ByteArray):=A J D (AK (E+1))
def UK fu D M L J E A:=bif A<D.size then AA (sx D A) λN=>bif N==M then AA (tM D E A) λM=>AA (BE 16 J [M]) λM=>SB fu L A M (AK (A+1)) else SB fu L A J E else AA (tM D E D.size) λA=>AA (BE 16 J [A]) λA=>some A
def JL (fu:Nat) (A:ByteArray) (D:Int):Nat→List ByteArray→Int→Int→Option (List ByteArray)|0=>λ_ _ _=>none|n+1=>UK fu A D (JL fu A D n)
def L8 fu A D:=JL fu A D fu [] 0 0
def XH (fu:Nat) (A:ByteArray):Option (Int×Bool):=nV A
def A8 (fu:Nat) (n1 D A:Int):Option Bool:=bif n1≥D then some (n1≤A) else some false
def XN (fu:Nat) (A:Int):Option ByteArray:=nQ A
def RM fu n1:=AA (XN fu n1) λA=>some A
def VG (fu:Nat) (A:Int×Bool):Option (Int×Bool):=some (A.1,true)
def K0 fu D:=AA (XH fu D) λA=>bif A.2 then some (0,false) else AA (A8 fu A.1 0 999999) λE=>bif !E then some (0,false) else AA (RM fu A.1) λE=>bif !(E.toList==D.toList) then some (0,false) else VG fu A
def Q0 fu D (J:List Int→Int→Option ((List Int)×Bool)) E A:=bif A<D.length then AA (ix D A) λD=>AA (K0 fu D) λD=>bif !D.2 then some ([],false) else AA (BE 8 E [D.1]) λD=>J D (AK (A+1)) else some (E,true)
def HA (fu:Nat) (A:List ByteArray):Nat→List Int→Int→Option ((List Int)×Bool)|0=>λ_ _=>none|n+1=>Q0 fu A (HA fu A n)
def T9 fu A:=AA (RA A 1 A.length) λA=>HA fu A fu [] 0
def B6 fu A (E:ByteArray) J:=AA (L8 fu A 32) λA=>AA (ix A 0) λD=>bif !(D.toList==E.toList) then some ([],false) else bif A.length != AK (J+1) then some ([],false) else T9 fu A
def UI (fu:Nat) (A:Request) (E:ByteArray):Option (Int×Request):=bif E.toList==(⟨#[119,97,121,32,102,105,114,115,116]⟩:ByteArray).toList then some (0,(⟨0,A.fJ,A.fR,A.fT,A.fG,A.fP,A.fU⟩:Request)) else bif E.toList==(⟨#[119,97,121,32,110,101,120,116]⟩:ByteArray).toList then some (0,(⟨1,A.fJ,A.fR,A.fT,A.fG,A.fP,A.fU⟩:Request)) else AA (B6 fu E (⟨#[112,97,108,108,101,116]⟩:ByteArray) 4) λD=>bif D.2 then AA (ix D.1 0) λJ=>AA (ix D.1 1) λM=>AA (ix D.1 2) λL=>AA (ix D.1 3) λD=>some (1,(⟨A.fc,(⟨J,M,L,D⟩:Pallet),A.fR,A.fT,A.fG,A.fP,A.fU⟩:Request)) else AA (B6 fu E (⟨#[99,108,97,115,115,101,115]⟩:ByteArray) 1) λD=>bif D.2 then AA (ix D.1 0) λD=>some (2,(⟨A.fc,A.fJ,D,A.fT,A.fG,A.fP,A.fU⟩:Request)) else AA (B6 fu E (⟨#[119,105,116,104]⟩:ByteArray) 2) λD=>bif D.2 then AA (ix D.1 0) λJ=>AA (ix D.1 1) λD=>AA (BE 16 A.fT ([(⟨J,D⟩:Pair)]:List Pair)) λD=>some (3,(⟨A.fc,A.fJ,A.fR,D,A.fG,A.fP,A.fU⟩:Request)) else AA (B6 fu E (⟨#[116,121,112,101]⟩:ByteArray) 7) λD=>bif D.2 then AA (ix D.1 0) λQ=>AA (ix D.1 1) λJ=>AA (ix D.1 2) λM=>AA (ix D.1 3) λO=>AA (ix D.1 4) λL=>AA (ix D.1 5) λN=>AA (ix D.1 6) λD=>AA (BE 56 A.fG ([(⟨Q,J,M,O,L,N,D⟩:Typ)]:List Typ)) λD=>some (4,(⟨A.fc,A.fJ,A.fR,A.fT,D,A.fP,A.fU⟩:Request)) else AA (B6 fu E (⟨#[109,97,115,116,101,114]⟩:ByteArray) 1) λD=>bif D.2 then AA (ix D.1 0) λD=>some (5,(⟨A.fc,A.fJ,A.fR,A.fT,A.fG,D,A.fU⟩:Request)) else AA (B6 fu E (⟨#[105,116,101,109]⟩:ByteArray) 7) λD=>bif D.2 then AA (ix D.1 0) λJ=>AA (ix D.1 1) λE=>AA (ix D.1 2) λL=>AA (ix D.1 3) λN=>AA (ix D.1 4) λO=>AA (ix D.1 5) λM=>AA (ix D.1 6) λD=>AA (BE 56 A.fU ([(⟨J,E,L,N,O,M,D⟩:Item)]:List Item)) λD=>some (6,(⟨A.fc,A.fJ,A.fR,A.fT,A.fG,A.fP,D⟩:Request)) else some (-1,A)
def JM (fu:Nat):Option Bool:=some false
def PE fu A D:=bif D==0 then bif D==0 then some (A==AK (D - 1)) else bif D==3 then bif A==2 then some true else some (A==3) else bif D==4 then AA (A8 fu A 2 4) λE=>some E else bif D==5 then AA (A8 fu A 2 4) λE=>some E else bif D==6 then bif A==5 then some true else some (A==6) else JM fu else bif D==1 then bif D==1 then some (A==AK (D - 1)) else bif D==3 then bif A==2 then some true else some (A==3) else bif D==4 then AA (A8 fu A 2 4) λE=>some E else bif D==5 then AA (A8 fu A 2 4) λE=>some E else bif D==6 then bif A==5 then some true else some (A==6) else JM fu else bif D==2 then some (A==AK (D - 1)) else bif D==3 then bif A==2 then some true else some (A==3) else bif D==4 then AA (A8 fu A 2 4) λE=>some E else bif D==5 then AA (A8 fu A 2 4) λE=>some E else bif D==6 then bif A==5 then some true else some (A==6) else JM fu
def M2 (fu:Nat) (D A:List ByteArray) (h:Int→Int→Int→Int→Int→Int→List Pair→List Typ→Int→List Item→Int→Int→Option (Request×Int)) (Q O T U Y N:Int) (Z:List Pair) (M:List Typ) (L:Int) (V:List Item) (J E:Int):Option (Request×Int):=bif E<(A.length:Int) then AA (ix A E) λA=>AA (UI fu (⟨Q,(⟨O,T,U,Y⟩:Pallet),N,Z,M,L,V⟩:Request) A) λA=>AA (PE fu J A.1) λe=>bif !e then some ((⟨0,(⟨0,0,0,0⟩:Pallet),0,[],[],0,[]⟩:Request),E) else h A.2.fc A.2.fJ.fW A.2.fJ.fD A.2.fJ.fH A.2.fJ.fQ A.2.fR A.2.fT A.2.fG A.2.fP A.2.fU A.1 (AK (E+1)) else bif J<5 then some ((⟨0,(⟨0,0,0,0⟩:Pallet),0,[],[],0,[]⟩:Request),AK ((D.length:Int) - 1)) else AA (ix D (AK ((D.length:Int) - 1))) λA=>bif !(A.toList==(⟨#[]⟩:ByteArray).toList) then some ((⟨0,(⟨0,0,0,0⟩:Pallet),0,[],[],0,[]⟩:Request),AK ((D.length:Int) - 1)) else some ((⟨Q,(⟨O,T,U,Y⟩:Pallet),N,Z,M,L,V⟩:Request),-1)
def HE (fu:Nat) (D:List ByteArray) (A:List ByteArray):Nat→Int→Int→Int→Int→Int→Int→List Pair→List Typ→Int→List Item→Int→Int→Option (Request×Int)|0=>λ_ _ _ _ _ _ _ _ _ _ _ _=>none|n+1=>M2 fu D A (HE fu D A n)
def H5 fu A:=AA (L8 fu A 10) λA=>bif AK (A.length - 1)>60 then some (⟨0,⟨0,0,0,0⟩,0,[],[],0,[]⟩,60) else AA (RA A 0 (AK (A.length - 1))) λD=>HE fu A D fu 0 0 0 0 0 0 [] [] 0 [] (-1) 0
def TV (fu:Nat) (A:Typ) (D:Int):Option Bool:=some (A.fe==D)
def DZ (fu:Nat) (D:List Typ) (E:Typ→Option Bool) (J:Int→Option Int) (A:Int):Option Int:=bif A<D.length then AA (ix D A) λD=>AA (E D) λD=>bif D then some A else J (AK (A+1)) else some (-1)
def BM (fu:Nat) (A:List Typ) (D:Typ→Option Bool):Nat→Int→Option Int|0=>λ_=>none|n+1=>DZ fu A D (BM fu A D n)
def CE fu A D:=BM fu A D fu 0
def JC fu (D:Request) E:=AA (CE fu D.fG (λA=>TV fu A E)) λA=>bif A<0 then some (⟨0,0,0,0,0,0,0⟩,false) else AA (ix D.fG A) λA=>some (A,true)
def KH fu A:=AA (JC fu A A.fP) λA=>some (A.1,A.2)
def DF fu n1:=AA (A8 fu n1 1 2000) λA=>some A
def F5 fu (A:Pallet):=AA (DF fu A.fW) λD=>bif D then AA (DF fu A.fD) λD=>bif D then AA (DF fu A.fH) λD=>bif D then AA (A8 fu A.fQ 1 100000) λA=>some A else some false else some false else some false
def DY (fu:Nat) (D:List Pair) (E:Pair→Option Bool) (J:Int→Option Int) (A:Int):Option Int:=bif A<D.length then AA (ix D A) λD=>AA (E D) λD=>bif D then some A else J (AK (A+1)) else some (-1)
def BO (fu:Nat) (A:List Pair) (D:Pair→Option Bool):Nat→Int→Option Int|0=>λ_=>none|n+1=>DY fu A D (BO fu A D n)
def DO fu A D:=BO fu A D fu 0
def BL (fu:Nat) (D:List Pair) (A:Pair→Option Bool):Option Bool:=AA (DO fu D A) λA=>some (A≥0)
def NK fu (A:Pair):=AA (A8 fu A.fA 0 3) λD=>bif !D then some true else AA (A8 fu A.fB 0 3) λA=>some (!A)
def BH (fu:Nat) (D:List Typ) (A:Typ→Option Bool):Option Bool:=AA (CE fu D A) λA=>some (A≥0)
def Ws fu (A:Typ):=AA (A8 fu A.fe 0 999) λD=>bif D then AA (DF fu A.fW) λD=>bif D then AA (DF fu A.fH) λD=>bif D then AA (DF fu A.fD) λD=>bif D then AA (A8 fu A.ff 0 100000) λD=>bif D then AA (A8 fu A.fQ 1 100000) λD=>bif D then AA (A8 fu A.fd 0 100000) λA=>some A else some false else some false else some false else some false else some false else some false
def NU fu A:=AA (Ws fu A) λA=>some (!A)
def Wh fu (A:Item):=AA (A8 fu A.fe 0 999) λD=>bif D then AA (DF fu A.fW) λD=>bif D then AA (DF fu A.fH) λD=>bif D then AA (DF fu A.fD) λD=>bif D then AA (A8 fu A.fQ 1 100000) λD=>bif D then AA (A8 fu A.fO 0 3) λD=>bif D then AA (A8 fu A.f9 1 6) λA=>some A else some false else some false else some false else some false else some false else some false
def OC (fu:Nat) (E:Request) (J:Int→Int→Option Bool) (D A:Int):Option Bool:=bif A<E.fU.length then AA (ix E.fU A) λE=>AA (Wh fu E) λL=>bif !L then some false else J (AK (D+E.f9)) (AK (A+1)) else some (D≤12)
def GB (fu:Nat) (A:Request):Nat→Int→Int→Option Bool|0=>λ_ _=>none|n+1=>OC fu A (GB fu A n)
def S3 fu A:=GB fu A fu 0 0
def TC (fu:Nat) (A:Request):Option Bool:=AA (BL fu A.fT (λD=>NK fu D)) λD=>bif D then some false else AA (A8 fu (A.fG.length:Int) 1 5) λD=>bif !D then some false else AA (BH fu A.fG (λD=>NU fu D)) λD=>bif D then some false else AA (A8 fu A.fP 0 999) λD=>bif !D then some false else bif (A.fU.length:Int)>8 then some false else S3 fu A
def SF (fu:Nat) (A:Request):Option Bool:=AA (A8 fu A.fc 0 1) λD=>bif !D then some false else AA (F5 fu A.fJ) λD=>bif !D then some false else AA (A8 fu A.fR 1 4) λD=>bif !D then some false else bif (A.fT.length:Int)>16 then some false else TC fu A
def VZ (fu:Nat) (D A:Typ):Option Bool:=some (D.fe==A.fe)
def V1 (fu:Nat) (D A:Item):Option Bool:=some (D.fe==A.fe)
def D0 (fu:Nat) (D:List Item) (E:Item→Option Bool) (J:Int→Option Int) (A:Int):Option Int:=bif A<D.length then AA (ix D A) λD=>AA (E D) λD=>bif D then some A else J (AK (A+1)) else some (-1)
def BN (fu:Nat) (A:List Item) (D:Item→Option Bool):Nat→Int→Option Int|0=>λ_=>none|n+1=>D0 fu A D (BN fu A D n)
def DJ fu A D:=BN fu A D fu 0
def BG (fu:Nat) (D:List Item) (A:Item→Option Bool):Option Bool:=AA (DJ fu D A) λA=>some (A≥0)
def PM (fu:Nat) (A:Pair) (D:Request):Option Bool:=bif A.fA≥D.fR then some true else some (A.fB≥D.fR)
def Up (fu:Nat) (D:Int→Option Bool) (A:Int):Option Bool:=D (AK (A+1))
def Q2 (fu:Nat) (A:Request) (J:Int→Option Bool) (D:Int):Option Bool:=bif D<A.fU.length then AA (ix A.fU D) λE=>bif E.fO≥A.fR then some false else AA (RA A.fU 0 D) λL=>AA (BG fu L (λL=>V1 fu L E)) λE=>bif E then some false else Up fu J D else AA (KH fu A) λD=>bif D.2 then AA (BL fu A.fT (λD=>PM fu D A)) λA=>some (!A) else some false
def EO (fu:Nat) (A:Request):Nat→Int→Option Bool|0=>λ_=>none|n+1=>Q2 fu A (EO fu A n)
def Q5 fu D (J:Int→Option Bool) A:=bif A<D.fG.length then AA (ix D.fG A) λL=>AA (RA D.fG 0 A) λE=>AA (BH fu E (λE=>VZ fu E L)) λE=>bif E then some false else J (AK (A+1)) else EO fu D fu 0
def GR (fu:Nat) (A:Request):Nat→Int→Option Bool|0=>λ_=>none|n+1=>Q5 fu A (GR fu A n)
def Ur fu A:=GR fu A fu 0
def EW (fu:Nat) (D:List Pair) (E:Pair) (J:Int→Option Int) (A:Int):Option Int:=bif A<D.length then AA (ix D A) λD=>bif E=D then some A else J (AK (A+1)) else some (-1)
def BZ (fu:Nat) (A:List Pair) (D:Pair):Nat→Int→Option Int|0=>λ_=>none|n+1=>EW fu A D (BZ fu A D n)
def GA fu A D:=BZ fu A D fu 0
def FG (fu:Nat) (A:List Pair) (D:Pair):Option Bool:=AA (GA fu A D) λA=>some (A≥0)
def JY (fu:Nat) (D:List Pair) (E A:Int):Option Bool:=AA (FG fu D ⟨E,A⟩) λA=>some A
def QF fu (J:Int→Option Bool) E M D (L:Int→Option Bool) A:=bif A<M then AA (JY fu E D A) λM=>AA (JY fu E A D) λE=>bif !(M==E) then some false else L (AK (A+1)) else J (AK (D+1))
def Hw (fu:Nat) (A:Int→Option Bool) (E:List Pair) (D J:Int):Nat→Int→Option Bool|0=>λ_=>none|n+1=>QF fu A E D J (Hw fu A E D J n)
def Q4 (fu:Nat) (D:List Pair) (E:Int) (J:Int→Option Bool) (A:Int):Option Bool:=bif A<E then AA (JY fu D A A) λL=>bif !L then some false else Hw fu J D E A fu 0 else some true
def GX (fu:Nat) (A:List Pair) (D:Int):Nat→Int→Option Bool|0=>λ_=>none|n+1=>Q4 fu A D (GX fu A D n)
def T6 fu E A:=AA (A8 fu A 1 4) λD=>bif !D then some false else GX fu E A fu 0
def CL (fu:Nat) (A:List Int):Option (List Int):=bU A
def XK (fu:Nat) (E:Item) (L:Typ) (A D:List Int):Option Bool:=AA (CL fu A) λA=>AA (CL fu D) λD=>AA (ix A 0) λJ=>AA (ix D 0) λM=>bif J≤M then AA (ix A 1) λM=>AA (ix D 1) λJ=>bif M≤J then AA (ix A 2) λJ=>AA (ix D 2) λA=>bif J≤A then some (E.fQ≤L.fQ) else some false else some false else some false
def WA fu D A:=XK fu D A [D.fW,D.fH,D.fD] [A.fW,A.fH,A.fD]
def UV fu A D:=AA (WA fu A D) λA=>some (!A)
def U6 (fu:Nat) (A:Typ) (D:Pallet):Option Bool:=bif A.fW>D.fW then some true else bif A.fD>D.fD then some true else bif A.fH>D.fH then some true else some (AK (A.ff+A.fQ)>D.fQ)
def Vq (fu:Nat) (A:Request):Option Int:=AA (KH fu A) λE=>AA (SF fu A) λD=>bif !D then some 2 else AA (Ur fu A) λD=>bif !D then some 3 else AA (T6 fu A.fT A.fR) λD=>bif !D then some 4 else AA (BG fu A.fU (λD=>UV fu D E.1)) λD=>bif D then some 5 else AA (BH fu A.fG (λD=>U6 fu D A.fJ)) λA=>bif A then some 6 else some 0
def LD (fu:Nat) (A:ByteArray):Option Int:=AA (H5 fu A) λA=>bif A.2≥0 then some 1 else AA (Vq fu A.1) λA=>some A
def FZ (fu:Nat) (A:Request):Option Bool:=AA (Vq fu A) λA=>some (A==0)
def D9 (fu:Nat) (A:List Int):Option (List Int):=AA (BE 8 [] A) λA=>some A
def K3 (fu:Nat) (A:List Int):Option (List Int):=uZ A
def LS fu A:=AA (D9 fu A) λA=>AA (CL fu A) λA=>AA (K3 fu A) λA=>some A
def QI (fu:Nat) (E:Request) (J:List Int→Int→Option (List Int)) (D:List Int) (A:Int):Option (List Int):=bif A<E.fU.length then AA (ix E.fU A) λE=>AA (BE 8 D [E.fO]) λE=>J E (AK (A+1)) else AA (LS fu D) λA=>some A
def I4 (fu:Nat) (A:Request):Nat→List Int→Int→Option (List Int)|0=>λ_ _=>none|n+1=>QI fu A (I4 fu A n)
def U5 fu A:=AA (FZ fu A) λD=>bif !D then some [] else I4 fu A fu [] 0
def Wq (fu:Nat) (D:List Pair) (E A:Int):Option Bool:=AA (JY fu D E A) λJ=>bif J then AA (JY fu D A E) λA=>some A else some false
def NB (fu:Nat) (A:Int) (E:List Pair) (D:Int):Option Bool:=AA (Wq fu E D A) λA=>some (!A)
def HS (fu:Nat) (D:List Int) (E:Int→Option Bool) (J:Int→Option Int) (A:Int):Option Int:=bif A<D.length then AA (ix D A) λD=>AA (E D) λD=>bif D then some A else J (AK (A+1)) else some (-1)
def DE (fu:Nat) (A:List Int) (D:Int→Option Bool):Nat→Int→Option Int|0=>λ_=>none|n+1=>HS fu A D (DE fu A D n)
def E1 fu A D:=DE fu A D fu 0
def D1 (fu:Nat) (D:List Int) (A:Int→Option Bool):Option Bool:=AA (E1 fu D A) λA=>some (A≥0)
def SA (fu:Nat) (A:List Int) (D:List Pair) (E:Int):Option Bool:=AA (D1 fu A (λA=>NB fu A D E)) λA=>some (!A)
def GU (fu:Nat) (D:List (List Int)) (E:(List Int)→Option Bool) (J:Int→Option Int) (A:Int):Option Int:=bif A<D.length then AA (ix D A) λD=>AA (E D) λD=>bif D then some A else J (AK (A+1)) else some (-1)
def CZ (fu:Nat) (A:List (List Int)) (D:(List Int)→Option Bool):Nat→Int→Option Int|0=>λ_=>none|n+1=>GU fu A D (CZ fu A D n)
def EU fu A D:=CZ fu A D fu 0
def LF (fu:Nat) (A:List (List Int)→Int→Option (List (List Int))) (E:Int) (D:List (List Int)):Option (List (List Int)):=A D (AK (E+1))
def Tz fu M E L A D:=bif D<E.length then AA (ix E D) λJ=>AA (A8 fu J 0 3) λE=>bif !E then LF fu L D A else AA (EU fu A (λE=>SA fu E M J)) λE=>bif E<0 then AA (BE 24 A [[J]]) λM=>LF fu L D M else AA (ix A E) λM=>AA (BE 8 M [J]) λJ=>AA (ix A E) λ_=>LF fu L D (DB A E J) else some A
def GJ (fu:Nat) (A:List Pair) (D:List Int):Nat→List (List Int)→Int→Option (List (List Int))|0=>λ_ _=>none|n+1=>Tz fu A D (GJ fu A D n)
def Wl fu D A:=AA (LS fu A) λA=>GJ fu D A fu [] 0
def JG fu A:=AA (FZ fu A) λD=>bif !D then some [] else AA (U5 fu A) λD=>AA (Wl fu A.fT D) λA=>some A
def aT (fu:Nat) (A D:Int):Option (Int×Int):=some (IntKind.wrap .u64 (IntKind.wrap .u64 (IntKind.wrap .u64 (Int.fdiv A (2 ^ min 32 (IntKind.bits .u64))*Int.fdiv D (2 ^ min 32 (IntKind.bits .u64)))+Int.fdiv (IntKind.wrap .u64 (IntKind.wrap .u64 (Int.fdiv A (2 ^ min 32 (IntKind.bits .u64))*IntKind.wrap .u64 (((BitVec.ofInt (IntKind.bits .u64) D &&& BitVec.ofInt (IntKind.bits .u64) 4294967295).toNat:Nat):Int))+Int.fdiv (IntKind.wrap .u64 (IntKind.wrap .u64 (((BitVec.ofInt (IntKind.bits .u64) A &&& BitVec.ofInt (IntKind.bits .u64) 4294967295).toNat:Nat):Int)*IntKind.wrap .u64 (((BitVec.ofInt (IntKind.bits .u64) D &&& BitVec.ofInt (IntKind.bits .u64) 4294967295).toNat:Nat):Int))) (2 ^ min 32 (IntKind.bits .u64)))) (2 ^ min 32 (IntKind.bits .u64)))+Int.fdiv (IntKind.wrap .u64 (IntKind.wrap .u64 (((BitVec.ofInt (IntKind.bits .u64) (IntKind.wrap .u64 (IntKind.wrap .u64 (Int.fdiv A (2 ^ min 32 (IntKind.bits .u64))*IntKind.wrap .u64 (((BitVec.ofInt (IntKind.bits .u64) D &&& BitVec.ofInt (IntKind.bits .u64) 4294967295).toNat:Nat):Int))+Int.fdiv (IntKind.wrap .u64 (IntKind.wrap .u64 (((BitVec.ofInt (IntKind.bits .u64) A &&& BitVec.ofInt (IntKind.bits .u64) 4294967295).toNat:Nat):Int)*IntKind.wrap .u64 (((BitVec.ofInt (IntKind.bits .u64) D &&& BitVec.ofInt (IntKind.bits .u64) 4294967295).toNat:Nat):Int))) (2 ^ min 32 (IntKind.bits .u64)))) &&& BitVec.ofInt (IntKind.bits .u64) 4294967295).toNat:Nat):Int)+IntKind.wrap .u64 (IntKind.wrap .u64 (((BitVec.ofInt (IntKind.bits .u64) A &&& BitVec.ofInt (IntKind.bits .u64) 4294967295).toNat:Nat):Int)*Int.fdiv D (2 ^ min 32 (IntKind.bits .u64))))) (2 ^ min 32 (IntKind.bits .u64))),IntKind.wrap .u64 (A*D))
def ar fu A D:=AA (aT fu A D) λA=>some (A.1,A.2)
def W4 (fu:Nat) (J:List Int→Int→Option (List Int)) (A:List Int) (D:Int):Option (List Int):=bif D<A.length then AA (RA A D A.length) λ_=>AA (RA A 0 D) λE=>J (px A D E) (AK (D+wM A D E)) else some A
def Kv (fu:Nat):Nat→List Int→Int→Option (List Int)|0=>λ_ _=>none|n+1=>W4 fu (Kv fu n)
def CG fu A (D:Int×Int):=AA (mk 8 (0:Int) (AK D.2)) λD=>Kv fu fu (px D 0 A) (wM D 0 A)
def Kc fu D A:=AA (ar fu (IntKind.wrap .u64 D.length) (IntKind.wrap .u64 A)) λA=>bif A.1>0 then none else bif A.2>9223372036854775807 then none else CG fu D A
def I8 fu D A:=bif A<0 then none else Kc fu D A
def Ui (fu:Nat) (E:Request) (J:List Int→Int→Option (List Int)) (D:List Int) (A:Int):Option (List Int):=bif A<E.fU.length then AA (ix E.fU A) λE=>AA (I8 fu [A] E.f9) λE=>AA (BE 8 D E) λE=>J E (AK (A+1)) else some D
def KJ (fu:Nat) (A:Request):Nat→List Int→Int→Option (List Int)|0=>λ_ _=>none|n+1=>Ui fu A (KJ fu A n)
def LV fu A:=AA (FZ fu A) λD=>bif !D then some [] else KJ fu A fu [] 0
def JT (fu:Nat) (D:List Int) (E:Int) (J:Int→Option Int) (A:Int):Option Int:=bif A<D.length then AA (ix D A) λD=>bif E==D then some A else J (AK (A+1)) else some (-1)
def D2 (fu:Nat) (A:List Int) (D:Int):Nat→Int→Option Int|0=>λ_=>none|n+1=>JT fu A D (D2 fu A D n)
def LU fu A D:=D2 fu A D fu 0
def FH (fu:Nat) (A:List Int) (D:Int):Option Bool:=AA (LU fu A D) λA=>some (A≥0)
def NQ (fu:Nat) (A:List Int→Int→Option (List Int)) (E:Int) (D:List Int):Option (List Int):=A D (AK (E+1))
def QC fu (N:Request) L M J E D A:=bif A<J.length then AA (ix J A) λJ=>AA (ix M L) λL=>AA (ix N.fU J) λJ=>AA (FH fu L J.fO) λJ=>bif J then AA (BE 8 D [A]) λJ=>NQ fu E A J else NQ fu E A D else some D
def G4 (fu:Nat) (J:Request) (A:Int) (D:List (List Int)) (E:List Int):Nat→List Int→Int→Option (List Int)|0=>λ_ _=>none|n+1=>QC fu J A D E (G4 fu J A D E n)
def Uk fu A D:=AA (JG fu A) λE=>AA (A8 fu D 0 (AK (E.length - 1))) λJ=>bif !J then some [] else AA (LV fu A) λJ=>G4 fu A D E J fu [] 0
def VU fu D A:=AA (A8 fu D 0 (AK (A - 1))) λA=>some (!A)
def FE (fu:Nat) (A:List Int→Int→Int→Option (List Int)) (E:Int) (D:List Int) (J:Int):Option (List Int):=A D J (AK (E+1))
def GZ fu (M:Int→Option Bool) J A D E:=bif E<A.length then AA (ix A E) λL=>AA (M L) λM=>bif !M then AA (ix A D) λ_=>FE fu J E (DB A D L) (AK (D+1)) else FE fu J E A D else AA (RA A D A.length) λ_=>AA (RA (Z1 A D) 0 D) λA=>some A
def CB (fu:Nat) (A:Int→Option Bool):Nat→List Int→Int→Int→Option (List Int)|0=>λ_ _ _=>none|n+1=>GZ fu A (CB fu A n)
def GN fu D E:=AA (E1 fu D E) λA=>bif A==(-1) then some D else CB fu E fu D A (AK (A+1))
def LE fu D A:=AA (LV fu D) λD=>AA (D9 fu A) λA=>AA (GN fu A (λA=>VU fu A D.length)) λA=>some A
def NT (fu:Nat) (A:List Item→Int→Option (List Item)) (E:Int) (D:List Item):Option (List Item):=A D (AK (E+1))
def P1 fu (N:Request) J L E D A:=bif A<J.length then AA (ix J A) λJ=>AA (A8 fu J 0 (AK (L.length - 1))) λM=>bif M then AA (ix L J) λJ=>AA (ix N.fU J) λJ=>AA (BE 56 D [J]) λJ=>NT fu E A J else NT fu E A D else some D
def G6 (fu:Nat) (E:Request) (D:List Int) (A:List Int):Nat→List Item→Int→Option (List Item)|0=>λ_ _=>none|n+1=>P1 fu E D A (G6 fu E D A n)
def J9 fu A D:=AA (LV fu A) λE=>G6 fu A D E fu [] 0
def VI (fu:Nat) (E D A:Int):Option Int:=some (AK (AK (E*D)*A))
def RB fu D A E:=AA (A8 fu D 0 2000) λJ=>bif !J then some 0 else AA (A8 fu A 0 2000) λJ=>bif !J then some 0 else AA (A8 fu E 0 2000) λJ=>bif !J then some 0 else VI fu D A E
def N3 (fu:Nat) (A:List Item) (J:Int→Int→Option Int) (E D:Int):Option Int:=bif D<A.length then AA (ix A D) λA=>AA (RB fu A.fW A.fH A.fD) λA=>J (AK (E+A)) (AK (D+1)) else some E
def IM (fu:Nat) (A:List Item):Nat→Int→Int→Option Int|0=>λ_ _=>none|n+1=>N3 fu A (IM fu A n)
def MI fu D A:=AA (J9 fu D A) λA=>IM fu A fu 0 0
def S6 (fu:Nat) (D:List Item) (J:Int→Int→Option Int) (E A:Int):Option Int:=bif A<D.length then AA (ix D A) λD=>J (AK (E+D.fQ)) (AK (A+1)) else some E
def J2 (fu:Nat) (A:List Item):Nat→Int→Int→Option Int|0=>λ_ _=>none|n+1=>S6 fu A (J2 fu A n)
def RI fu D A:=AA (J9 fu D A) λA=>J2 fu A fu 0 0
def RE (fu:Nat) (E:Request) (D:List Int) (A:Typ):Option Bool:=AA (MI fu E D) λL=>AA (RB fu A.fW A.fH A.fD) λJ=>bif L≤J then AA (RI fu E D) λD=>some (D≤A.fQ) else some false
def WM fu A E D:=AA (KH fu A) λL=>AA (FZ fu A) λJ=>bif J then AA (D9 fu E) λE=>AA (BE 8 E [D]) λD=>AA (RE fu A D L.1) λA=>some A else some false
def KV (fu:Nat) (A:List (List Int)→Int→Option (List (List Int))) (D:Int) (E:List (List Int)):Option (List (List Int)):=A E (AK (D+1))
def P3 fu M E J A D:=bif D<E.length then AA (ix E D) λE=>bif AK (A.length - 1)≥0 then AA (ix A (AK (A.length - 1))) λL=>AA (WM fu M L E) λM=>bif M then AA (ix A (AK (A.length - 1))) λ_=>AA (BE 8 L [E]) λL=>AA (ix A (AK (A.length - 1))) λ_=>KV fu J D (DB A (AK (A.length - 1)) L) else AA (BE 24 A [[E]]) λL=>KV fu J D L else AA (BE 24 A [[E]]) λE=>KV fu J D E else some A
def FP (fu:Nat) (D:Request) (A:List Int):Nat→List (List Int)→Int→Option (List (List Int))|0=>λ_ _=>none|n+1=>P3 fu D A (FP fu D A n)
def T8 fu A D:=AA (LE fu A D) λD=>FP fu A D fu [] 0
def SR (fu:Nat) (n1:Int) (E:List Int→Int→Option (List Int)) (D:List Int) (A:Int):Option (List Int):=bif A<n1 then AA (BE 8 D [A]) λJ=>E J (AK (A+1)) else some D
def J5 (fu:Nat) (n1:Int):Nat→List Int→Int→Option (List Int)|0=>λ_ _=>none|n+1=>SR fu n1 (J5 fu n1 n)
def RJ fu n1:=J5 fu n1 fu [] 0
def Ub (fu:Nat) (A D:Int):Option Int:=bif A<D then some (-1) else bif A>D then some 1 else some 0
def G7 fu D E A:=AA (ix A E) λE=>AA (ix A D) λA=>AA (Ub fu E A) λA=>some A
def FJ (fu:Nat) (L:List Int→Int→Option (List Int)) (D:List Int) (A:Int):Option (List Int):=AA (ix D (AK (A - 1))) λE=>AA (ix D A) λJ=>AA (ix D A) λ_=>AA (ix (DB D A E) (AK (A - 1))) λ_=>L (DB (DB D A E) (AK (A - 1)) J) (AK (A - 1))
def E5 fu (E:List Int→Int→Option (List Int)) M (L:Int→Int→Option Int) J O A D:=bif D>M then AA (ix A D) λM=>AA (ix A (AK (D - 1))) λN=>AA (L M N) λL=>bif L<0 then FJ fu O A D else E A (AK (J+1)) else E A (AK (J+1))
def BP (fu:Nat) (A:List Int→Int→Option (List Int)) (J:Int) (E:Int→Int→Option Int) (D:Int):Nat→List Int→Int→Option (List Int)|0=>λ_ _=>none|n+1=>E5 fu A J E D (BP fu A J E D n)
def DL fu M E L J D A:=bif A<E then BP fu J M L A fu D A else some D
def A7 (fu:Nat) (E A:Int) (D:Int→Int→Option Int):Nat→List Int→Int→Option (List Int)|0=>λ_ _=>none|n+1=>DL fu E A D (A7 fu E A D n)
def DG fu E A D J:=A7 fu A D J fu E (AK (A+1))
def JK (fu:Nat) (A:List Int) (A A A:Int) (A:Int→Int→Option Int):Option (List Int):=none
def I0 (fu:Nat) (A:List Int→Int→Option (List Int)) (E:Int) (D:List Int):Option (List Int):=A D (AK (E*2))
def Vw fu N J M A (Q:List Int→Int→Int→Option (List Int)) L D E:=bif E≤J then AA (JK fu L D (AK (D+A)) E M) λO=>Q O E (AK (E+AK (2*A))) else bif AK (D+A)<J then AA (JK fu L D (AK (D+A)) J M) λD=>I0 fu N A D else I0 fu N A L
def IY (fu:Nat) (J:List Int→Int→Option (List Int)) (D:Int) (E:Int→Int→Option Int) (A:Int):Nat→List Int→Int→Int→Option (List Int)|0=>λ_ _ _=>none|n+1=>Vw fu J D E A (IY fu J D E A n)
def K6 fu E J L D A:=bif A<E then IY fu L E J A fu D 0 (AK (2*A)) else some D
def DD (fu:Nat) (D:Int) (A:Int→Int→Option Int):Nat→List Int→Int→Option (List Int)|0=>λ_ _=>none|n+1=>K6 fu D A (DD fu D A n)
def K5 fu D E (M:List Int→Int→Int→Option (List Int)) L J A:=bif A≤D then AA (DG fu L J A E) λN=>M N A (AK (A+20)) else AA (DG fu L J D E) λA=>DD fu D E fu A 20
def FR (fu:Nat) (D:Int) (A:Int→Int→Option Int):Nat→List Int→Int→Int→Option (List Int)|0=>λ_ _ _=>none|n+1=>K5 fu D A (FR fu D A n)
def KD fu D A E:=FR fu A E fu D 0 20
def HR fu A D:=AA (KD fu A A.length D) λA=>some A
def JD fu A:=AA (RJ fu A.length) λD=>AA (HR fu D (λE D=>G7 fu E D A)) λA=>some A
def NO fu E D A:=AA (WM fu D E A) λA=>some A
def LX (fu:Nat) (A:List (List Int)→Int→Option (List (List Int))) (E:Int) (D:List (List Int)):Option (List (List Int)):=A D (AK (E+1))
def OP fu M J D L A E:=bif E<D.length then AA (ix D E) λD=>AA (ix J D) λJ=>AA (EU fu A (λD=>NO fu D M J)) λD=>bif D<0 then AA (BE 24 A [[J]]) λM=>LX fu L E M else AA (ix A D) λM=>AA (BE 8 M [J]) λJ=>AA (ix A D) λ_=>LX fu L E (DB A D J) else some A
def DP (fu:Nat) (E:Request) (D A:List Int):Nat→List (List Int)→Int→Option (List (List Int))|0=>λ_ _=>none|n+1=>OP fu E D A (DP fu E D A n)
def O0 fu J D (L:List Int→Int→Option (List (List Int))) E A:=bif A<D.length then AA (ix D A) λM=>AA (MI fu J [M]) λM=>AA (BE 8 E [M]) λM=>L M (AK (A+1)) else AA (JD fu E) λA=>DP fu J D A fu [] 0
def IK (fu:Nat) (D:Request) (A:List Int):Nat→List Int→Int→Option (List (List Int))|0=>λ_ _=>none|n+1=>O0 fu D A (IK fu D A n)
def Sg fu A D:=AA (LE fu A D) λD=>IK fu A D fu [] 0
def U0 fu A D:=bif A.fc==1 then AA (T8 fu A D) λE=>some E else AA (Sg fu A D) λA=>some A
def XV fu A D:=AA (WA fu A D) λA=>some (!A)
def WQ (fu:Nat) (E:Request) (A:List Int) (D:Typ):Option Bool:=AA (J9 fu E A) λJ=>AA (BG fu J (λJ=>XV fu J D)) λJ=>bif !J then AA (RE fu E A D) λA=>some A else some false
def U3 (fu:Nat) (D:Request) (A:List Int) (J:Typ):Option Bool:=AA (FZ fu D) λE=>bif !E then some false else AA (LE fu D A) λE=>bif (E.length:Int) != (A.length:Int) then some false else WQ fu D A J
def E7 (fu:Nat) (A:Typ→Bool→Int→Option (Typ×Bool)) (E:Int) (D:Typ) (J:Bool):Option (Typ×Bool):=A D J (AK (E+1))
def ON fu M N J D L A:=bif A<M.fG.length then AA (ix M.fG A) λE=>AA (U3 fu M N E) λM=>bif !M then E7 fu J A D L else bif !L then E7 fu J A E true else bif E.fd<D.fd then E7 fu J A E true else bif E.fd==D.fd then bif E.fe<D.fe then E7 fu J A E true else E7 fu J A D L else E7 fu J A D L else some (D,L)
def Gz (fu:Nat) (D:Request) (A:List Int):Nat→Typ→Bool→Int→Option (Typ×Bool)|0=>λ_ _ _=>none|n+1=>ON fu D A (Gz fu D A n)
def MG fu D A:=Gz fu D A fu ⟨0,0,0,0,0,0,0⟩ false 0
def MW fu (L:List Carton→Int→Option (List Carton)) N E D (M:List Carton→Int→Option (List Carton)) J A:=bif A<D.length then AA (ix D A) λD=>AA (MG fu N D) λN=>AA (CL fu D) λD=>AA (BE 40 J [⟨N.1.fe,E,D⟩]) λD=>M D (AK (A+1)) else L J (AK (E+1))
def HJ (fu:Nat) (A:List Carton→Int→Option (List Carton)) (J:Request) (E:Int) (D:List (List Int)):Nat→List Carton→Int→Option (List Carton)|0=>λ_ _=>none|n+1=>MW fu A J E D (HJ fu A J E D n)
def Nn (fu:Nat) (D:Request) (L:List (List Int)) (J:List Carton→Int→Option (List Carton)) (E:List Carton) (A:Int):Option (List Carton):=bif A<L.length then AA (Uk fu D A) λL=>AA (U0 fu D L) λL=>HJ fu J D A L fu E 0 else some E
def DU (fu:Nat) (D:Request) (A:List (List Int)):Nat→List Carton→Int→Option (List Carton)|0=>λ_ _=>none|n+1=>Nn fu D A (DU fu D A n)
def Pk fu A:=AA (JG fu A) λD=>DU fu A D fu [] 0
def WV fu E (D:Carton) (A:Typ×Bool):=AA (RI fu E D.fK) λD=>some (AK (A.1.ff+D))
def U9 fu A E:=AA (JC fu A E.f8) λD=>bif !D.2 then some 0 else AA (FZ fu A) λJ=>bif !J then some 0 else WV fu A E D
def W5 (fu:Nat) (E:Request) (D:Carton) (A:Typ×Bool):Option Box:=AA (U9 fu E D) λD=>some ⟨A.1.fW,A.1.fD,A.1.fH,D⟩
def TZ fu A E:=AA (JC fu A E.f8) λD=>bif !D.2 then some ⟨0,0,0,0⟩ else AA (FZ fu A) λJ=>bif !J then some ⟨0,0,0,0⟩ else W5 fu A E D
def PR fu (D:Box) (A:Pallet):=AA (A8 fu D.fW 1 A.fW) λE=>bif !E then some true else AA (A8 fu D.fD 1 A.fD) λE=>bif !E then some true else AA (A8 fu D.fH 1 A.fH) λE=>bif !E then some true else AA (A8 fu D.fQ 1 A.fQ) λA=>some (!A)
def EA (fu:Nat) (D:List Box) (E:Box→Option Bool) (J:Int→Option Int) (A:Int):Option Int:=bif A<D.length then AA (ix D A) λD=>AA (E D) λD=>bif D then some A else J (AK (A+1)) else some (-1)
def BJ (fu:Nat) (A:List Box) (D:Box→Option Bool):Nat→Int→Option Int|0=>λ_=>none|n+1=>EA fu A D (BJ fu A D n)
def FL fu A D:=BJ fu A D fu 0
def DH (fu:Nat) (D:List Box) (A:Box→Option Bool):Option Bool:=AA (FL fu D A) λA=>some (A≥0)
def OD (fu:Nat) (A:Pallet) (E:List Box):Option Bool:=AA (F5 fu A) λD=>bif D then AA (DH fu E (λD=>PR fu D A)) λA=>some (!A) else some false
def UL (fu:Nat) (D:List Shelf→Int→Option (List Shelf)) (A:Int) (E:List Shelf):Option (List Shelf):=D E (AK (A+1))
def EL (fu:Nat) (O:List Shelf→Int→Option (List Shelf)) (N A:Int) (E:Box) (M:List Shelf) (L:Int):Option (List Shelf):=AA (ix M L) λD=>AA (BE 8 D.f7 ([A]:List Int)) λJ=>AA (some (⟨(⟨J,D.fW,D.fD,D.fH,D.fQ⟩:Shelf).f7,AK (((⟨J,D.fW,D.fD,D.fH,D.fQ⟩:Shelf).fW)+E.fW),(⟨J,D.fW,D.fD,D.fH,D.fQ⟩:Shelf).fD,(⟨J,D.fW,D.fD,D.fH,D.fQ⟩:Shelf).fH,(⟨J,D.fW,D.fD,D.fH,D.fQ⟩:Shelf).fQ⟩:Shelf)) λA=>AA (some (DB (DB M L (⟨J,D.fW,D.fD,D.fH,D.fQ⟩:Shelf)) L A)) λJ=>AA (some (⟨(⟨A.f7,A.fW,if E.fD>A.fD then E.fD else A.fD,A.fH,A.fQ⟩:Shelf).f7,(⟨A.f7,A.fW,if E.fD>A.fD then E.fD else A.fD,A.fH,A.fQ⟩:Shelf).fW,(⟨A.f7,A.fW,if E.fD>A.fD then E.fD else A.fD,A.fH,A.fQ⟩:Shelf).fD,if E.fH>((⟨A.f7,A.fW,if E.fD>A.fD then E.fD else A.fD,A.fH,A.fQ⟩:Shelf).fH) then E.fH else (⟨A.f7,A.fW,if E.fD>A.fD then E.fD else A.fD,A.fH,A.fQ⟩:Shelf).fH,(⟨A.f7,A.fW,if E.fD>A.fD then E.fD else A.fD,A.fH,A.fQ⟩:Shelf).fQ⟩:Shelf)) λD=>AA (some (DB (DB J L (⟨A.f7,A.fW,if E.fD>A.fD then E.fD else A.fD,A.fH,A.fQ⟩:Shelf)) L D)) λA=>UL fu O N (DB A L (⟨D.f7,D.fW,D.fD,D.fH,AK (D.fQ+E.fQ)⟩:Shelf))
def Q8 fu (N:Pallet) M E L A D:=bif D<E.length then AA (ix E D) λJ=>AA (ix M J) λE=>bif AK (A.length - 1)<0 then AA (BE 56 A [⟨[],0,0,0,0⟩]) λM=>EL fu L D J E M (AK (AK (A.length - 1)+1)) else AA (ix A (AK (A.length - 1))) λM=>bif AK (M.fW+E.fW)>N.fW then AA (BE 56 A [⟨[],0,0,0,0⟩]) λO=>EL fu L D J E O (AK (AK (A.length - 1)+1)) else AA (ix A (AK (A.length - 1))) λ_=>bif AK (M.fQ+E.fQ)>N.fQ then AA (BE 56 A [⟨[],0,0,0,0⟩]) λM=>EL fu L D J E M (AK (AK (A.length - 1)+1)) else EL fu L D J E A (AK (A.length - 1)) else some A
def CJ (fu:Nat) (E:Pallet) (D:List Box) (A:List Int):Nat→List Shelf→Int→Option (List Shelf)|0=>λ_ _=>none|n+1=>Q8 fu E D A (CJ fu E D A n)
def QX fu M D (L:List Int→Int→Option (List Shelf)) E A:=bif A<D.length then AA (ix D A) λJ=>AA (BE 8 E [J.fD]) λJ=>L J (AK (A+1)) else AA (JD fu E) λA=>CJ fu M D A fu [] 0
def JB (fu:Nat) (A:Pallet) (D:List Box):Nat→List Int→Int→Option (List Shelf)|0=>λ_ _=>none|n+1=>QX fu A D (JB fu A D n)
def UH fu A D:=AA (OD fu A D) λE=>bif !E then some [] else JB fu A D fu [] 0
def S8 fu (A:Shelf) (D:Pallet):=AA (A8 fu A.fD 1 D.fD) λE=>bif !E then some true else AA (A8 fu A.fH 1 D.fH) λE=>bif !E then some true else AA (A8 fu A.fQ 1 D.fQ) λA=>some (!A)
def DT (fu:Nat) (D:List Shelf) (E:Shelf→Option Bool) (J:Int→Option Int) (A:Int):Option Int:=bif A<D.length then AA (ix D A) λD=>AA (E D) λD=>bif D then some A else J (AK (A+1)) else some (-1)
def BC (fu:Nat) (A:List Shelf) (D:Shelf→Option Bool):Nat→Int→Option Int|0=>λ_=>none|n+1=>DT fu A D (BC fu A D n)
def EI fu A D:=BC fu A D fu 0
def CR (fu:Nat) (D:List Shelf) (A:Shelf→Option Bool):Option Bool:=AA (EI fu D A) λA=>some (A≥0)
def PF (fu:Nat) (A:Pallet) (E:List Shelf):Option Bool:=AA (F5 fu A) λD=>bif D then AA (CR fu E (λD=>S8 fu D A)) λA=>some (!A) else some false
def TI (fu:Nat) (D:List Layer→Int→Option (List Layer)) (A:Int) (E:List Layer):Option (List Layer):=D E (AK (A+1))
def D5 (fu:Nat) (O:List Layer→Int→Option (List Layer)) (N:Int) (E:Shelf) (M:List Layer) (J:Int):Option (List Layer):=AA (ix M J) λD=>AA (BE 8 D.fM ([N]:List Int)) λL=>AA (some (⟨(⟨L,D.fD,D.fH,D.fQ⟩:Layer).fM,AK (((⟨L,D.fD,D.fH,D.fQ⟩:Layer).fD)+E.fD),(⟨L,D.fD,D.fH,D.fQ⟩:Layer).fH,(⟨L,D.fD,D.fH,D.fQ⟩:Layer).fQ⟩:Layer)) λA=>AA (some (DB (DB M J (⟨L,D.fD,D.fH,D.fQ⟩:Layer)) J A)) λD=>AA (some (⟨(⟨A.fM,A.fD,if E.fH>A.fH then E.fH else A.fH,A.fQ⟩:Layer).fM,(⟨A.fM,A.fD,if E.fH>A.fH then E.fH else A.fH,A.fQ⟩:Layer).fD,(⟨A.fM,A.fD,if E.fH>A.fH then E.fH else A.fH,A.fQ⟩:Layer).fH,AK (((⟨A.fM,A.fD,if E.fH>A.fH then E.fH else A.fH,A.fQ⟩:Layer).fQ)+E.fQ)⟩:Layer)) λL=>AA (some (DB (DB D J (⟨A.fM,A.fD,if E.fH>A.fH then E.fH else A.fH,A.fQ⟩:Layer)) J L)) λA=>TI fu O N A
def Oz fu (L:Pallet) D J A E:=bif E<D.length then AA (ix D E) λD=>bif AK (A.length - 1)<0 then AA (BE 48 A [⟨[],0,0,0⟩]) λM=>D5 fu J E D M (AK (AK (A.length - 1)+1)) else AA (ix A (AK (A.length - 1))) λM=>bif AK (M.fD+D.fD)>L.fD then AA (BE 48 A [⟨[],0,0,0⟩]) λN=>D5 fu J E D N (AK (AK (A.length - 1)+1)) else AA (ix A (AK (A.length - 1))) λ_=>bif AK (M.fQ+D.fQ)>L.fQ then AA (BE 48 A [⟨[],0,0,0⟩]) λL=>D5 fu J E D L (AK (AK (A.length - 1)+1)) else D5 fu J E D A (AK (A.length - 1)) else some A
def CM (fu:Nat) (A:Pallet) (D:List Shelf):Nat→List Layer→Int→Option (List Layer)|0=>λ_ _=>none|n+1=>Oz fu A D (CM fu A D n)
def R8 fu A D:=AA (PF fu A D) λE=>bif !E then some [] else CM fu A D fu [] 0
def U1 fu (A:Layer) (D:Pallet):=AA (A8 fu A.fD 1 D.fD) λE=>bif !E then some true else AA (A8 fu A.fH 1 D.fH) λE=>bif !E then some true else AA (A8 fu A.fQ 1 D.fQ) λA=>some (!A)
def DR (fu:Nat) (D:List Layer) (E:Layer→Option Bool) (J:Int→Option Int) (A:Int):Option Int:=bif A<D.length then AA (ix D A) λD=>AA (E D) λD=>bif D then some A else J (AK (A+1)) else some (-1)
def BB (fu:Nat) (A:List Layer) (D:Layer→Option Bool):Nat→Int→Option Int|0=>λ_=>none|n+1=>DR fu A D (BB fu A D n)
def EJ fu A D:=BB fu A D fu 0
def CQ (fu:Nat) (D:List Layer) (A:Layer→Option Bool):Option Bool:=AA (EJ fu D A) λA=>some (A≥0)
def R7 (fu:Nat) (A:Pallet) (E:List Layer):Option Bool:=AA (F5 fu A) λD=>bif D then AA (CQ fu E (λD=>U1 fu D A)) λA=>some (!A) else some false
def TY (fu:Nat) (D:List Load→Int→Option (List Load)) (A:Int) (E:List Load):Option (List Load):=D E (AK (A+1))
def EQ (fu:Nat) (O:List Load→Int→Option (List Load)) (L:Int) (N:Layer) (M:List Load) (J:Int):Option (List Load):=AA (ix M J) λA=>AA (BE 8 A.f0 ([L]:List Int)) λE=>AA (some (⟨(⟨E,A.fH,A.fQ⟩:Load).f0,AK (((⟨E,A.fH,A.fQ⟩:Load).fH)+N.fH),(⟨E,A.fH,A.fQ⟩:Load).fQ⟩:Load)) λD=>AA (some (DB (DB M J (⟨E,A.fH,A.fQ⟩:Load)) J D)) λA=>TY fu O L (DB A J (⟨D.f0,D.fH,AK (D.fQ+N.fQ)⟩:Load))
def Rt fu (L:Pallet) D J A E:=bif E<D.length then AA (ix D E) λD=>bif AK (A.length - 1)<0 then AA (BE 40 A [⟨[],0,0⟩]) λM=>EQ fu J E D M (AK (AK (A.length - 1)+1)) else AA (ix A (AK (A.length - 1))) λM=>bif AK (M.fH+D.fH)>L.fH then AA (BE 40 A [⟨[],0,0⟩]) λN=>EQ fu J E D N (AK (AK (A.length - 1)+1)) else AA (ix A (AK (A.length - 1))) λ_=>bif AK (M.fQ+D.fQ)>L.fQ then AA (BE 40 A [⟨[],0,0⟩]) λL=>EQ fu J E D L (AK (AK (A.length - 1)+1)) else EQ fu J E D A (AK (A.length - 1)) else some A
def C7 (fu:Nat) (A:Pallet) (D:List Layer):Nat→List Load→Int→Option (List Load)|0=>λ_ _=>none|n+1=>Rt fu A D (C7 fu A D n)
def UW fu A D:=AA (R7 fu A D) λE=>bif !E then some [] else C7 fu A D fu [] 0
def QN (fu:Nat) (Y:List Spot→Int→Int→Option (List Spot)) (M:List Box) (O:List Shelf) (T Q J U N:Int) (E:Shelf) (V:List Spot→Int→Int→Option (List Spot)) (A:List Spot) (L D:Int):Option (List Spot):=bif D<E.f7.length then AA (ix E.f7 D) λE=>AA (ix A E) λ_=>AA (ix M E) λM=>V (DB A E ⟨T,L,J,Q⟩) (AK (L+M.fW)) (AK (D+1)) else AA (ix O N) λD=>Y A (AK (J+D.fD)) (AK (U+1))
def Jw (fu:Nat) (N:List Spot→Int→Int→Option (List Spot)) (A:List Box) (D:List Shelf) (E M L Q O:Int) (J:Shelf):Nat→List Spot→Int→Int→Option (List Spot)|0=>λ_ _ _=>none|n+1=>QN fu N A D E M L Q O J (Jw fu N A D E M L Q O J n)
def QM (fu:Nat) (Q:List Spot→Int→Int→Option (List Spot)) (V:List Box) (E:List Shelf) (N:List Layer) (O J U M:Int) (D:Layer) (Y:List Spot→Int→Int→Option (List Spot)) (L:List Spot) (T A:Int):Option (List Spot):=bif A<D.fM.length then AA (ix D.fM A) λD=>AA (ix E D) λZ=>Jw fu Y V E O J T A D Z fu L 0 0 else AA (ix N M) λA=>Q L (AK (J+A.fH)) (AK (U+1))
def EV (fu:Nat) (A:List Spot→Int→Int→Option (List Spot)) (J:List Box) (E:List Shelf) (O:List Layer) (M L D N:Int) (Q:Layer):Nat→List Spot→Int→Int→Option (List Spot)|0=>λ_ _ _=>none|n+1=>QM fu A J E O M L D N Q (EV fu A J E O M L D N Q n)
def Q3 (fu:Nat) (O:List Spot→Int→Option (List Spot)) (U:List Box) (M:List Shelf) (D:List Layer) (J:Int) (E:Load) (Q:List Spot→Int→Int→Option (List Spot)) (L:List Spot) (N A:Int):Option (List Spot):=bif A<E.f0.length then AA (ix E.f0 A) λE=>AA (ix D E) λT=>EV fu Q U M D J N A E T fu L 0 0 else O L (AK (J+1))
def C4 (fu:Nat) (M:List Spot→Int→Option (List Spot)) (D:List Box) (J:List Shelf) (A:List Layer) (L:Int) (E:Load):Nat→List Spot→Int→Int→Option (List Spot)|0=>λ_ _ _=>none|n+1=>Q3 fu M D J A L E (C4 fu M D J A L E n)
def QW fu N L M E J D A:=bif A<E.length then AA (ix E A) λE=>C4 fu J N L M A E fu D 0 0 else some D
def B1 (fu:Nat) (A:List Box) (J:List Shelf) (D:List Layer) (E:List Load):Nat→List Spot→Int→Option (List Spot)|0=>λ_ _=>none|n+1=>QW fu A J D E (B1 fu A J D E n)
def Pj fu D A:=AA (OD fu D A) λE=>bif !E then some [] else AA (UH fu D A) λJ=>AA (R8 fu D J) λE=>AA (mk 32 ⟨(0:Int),(0:Int),(0:Int),(0:Int)⟩ A.length) λL=>AA (UW fu D E) λD=>B1 fu A J E D fu L 0
def NL (fu:Nat) (A:Int→Int→Option Int) (D E:Int):Option Int:=A E (AK (D+1))
def Ra (fu:Nat) (E:List Spot) (J:Int→Int→Option Int) (A D:Int):Option Int:=bif D<E.length then AA (ix E D) λE=>AA (A8 fu E.fJ 0 999999) λL=>bif L then NL fu J D (if (AK (E.fJ+1))>A then AK (E.fJ+1) else A) else NL fu J D A else some A
def GT (fu:Nat) (A:List Spot):Nat→Int→Int→Option Int|0=>λ_ _=>none|n+1=>Ra fu A (GT fu A n)
def LG fu A:=GT fu A fu 0 0
def PC (fu:Nat) (A:List Box→Int→Option (Plan×Bool)) (E:Int) (D:List Box):Option (Plan×Bool):=A D (AK (E+1))
def S9 (fu:Nat) (L:List Spot→Int→Int→Option (Plan×Bool)) (J M:Int) (A:List Spot) (N:Int) (O:List Spot→Int→Option (Plan×Bool)) (E:List Spot) (D:Int):Option (Plan×Bool):=bif D<A.length then AA (ix A D) λA=>AA (BE 32 E [⟨AK (A.fJ+J),A.fX,A.fY,A.fZ⟩]) λA=>O A (AK (D+1)) else L E (AK (J+N)) (AK (M+1))
def Iv (fu:Nat) (J:List Spot→Int→Int→Option (Plan×Bool)) (D L:Int) (E:List Spot) (A:Int):Nat→List Spot→Int→Option (Plan×Bool)|0=>λ_ _=>none|n+1=>S9 fu J D L E A (Iv fu J D L E A n)
def TB fu N M J Q O E L D A:=bif A<J.length then AA (ix J A) λJ=>bif J.fF==E then AA (TZ fu M J) λJ=>AA (BE 32 D [J]) λJ=>PC fu L A J else PC fu L A D else AA (Pj fu M.fJ D) λA=>AA (LG fu A) λD=>Iv fu N O E A D fu Q 0
def H7 (fu:Nat) (E:List Spot→Int→Int→Option (Plan×Bool)) (M:Request) (A:List Carton) (L:List Spot) (D J:Int):Nat→List Box→Int→Option (Plan×Bool)|0=>λ_ _=>none|n+1=>TB fu E M A L D J (H7 fu E M A L D J n)
def Tr (fu:Nat) (N:Request) (D:List Carton) (M:List (List Int)) (J:List Spot→Int→Int→Option (Plan×Bool)) (A:List Spot) (L E:Int):Option (Plan×Bool):=bif E<M.length then H7 fu J N D A L E fu [] 0 else some (⟨D,A⟩,true)
def C1 (fu:Nat) (E:Request) (D:List Carton) (A:List (List Int)):Nat→List Spot→Int→Int→Option (Plan×Bool)|0=>λ_ _ _=>none|n+1=>Tr fu E D A (C1 fu E D A n)
def Wp fu A:=AA (FZ fu A) λD=>bif !D then some (⟨[],[]⟩,false) else AA (Pk fu A) λD=>AA (JG fu A) λE=>C1 fu A D E fu [] 0 0
def KQ (fu:Nat) (A:Int→Option Bool) (D:Int):Option Bool:=A (AK (D+1))
def LP (fu:Nat) (D:List Int) (E:Int→Option Bool) (A:Int):Option Bool:=bif A<(D.length:Int) then AA (ix D A) λJ=>AA (A8 fu J 0 999) λL=>bif !L then some false else bif A>0 then AA (ix D (AK (A - 1))) λL=>bif L≥J then some false else KQ fu E A else KQ fu E A else some ((D.length:Int)≤100)
def EX (fu:Nat) (A:List Int):Nat→Int→Option Bool|0=>λ_=>none|n+1=>LP fu A (EX fu A n)
def NV fu A:=EX fu A fu 0
def CS fu n1:=AA (A8 fu n1 0 2000) λA=>some A
def VE (fu:Nat) (D:Int→Option Bool) (A:Int):Option Bool:=D (AK (A+1))
def TF (fu:Nat) (D:Plan) (L:Int→Option Bool) (A:Int):Option Bool:=bif A<D.fV.length then AA (ix D.fV A) λE=>AA (ix D.fE A) λD=>AA (A8 fu E.f8 0 999) λJ=>bif !J then some false else AA (A8 fu E.fF 0 3) λJ=>bif !J then some false else AA (NV fu E.fK) λE=>bif !E then some false else AA (CS fu D.fJ) λE=>bif !E then some false else AA (CS fu D.fX) λE=>bif !E then some false else AA (CS fu D.fY) λE=>bif !E then some false else AA (CS fu D.fZ) λD=>bif !D then some false else VE fu L A else some true
def HX (fu:Nat) (A:Plan):Nat→Int→Option Bool|0=>λ_=>none|n+1=>TF fu A (HX fu A n)
def V5 fu A:=HX fu A fu 0
def KY (fu:Nat) (A:Plan):Option Bool:=bif (A.fE.length:Int) != (A.fV.length:Int) then some false else bif (A.fV.length:Int)>100 then some false else V5 fu A
def OK fu D (L:ByteArray→Int→Option (ByteArray×Bool)) E A:=bif A<D.length then AA (ix D A) λD=>AA (A8 fu D 0 999999) λJ=>bif !J then some (⟨#[]⟩,false) else AA (RM fu D) λD=>AA (NY ⟨#[32]⟩ D) λD=>AA (NY E D) λD=>L D (AK (A+1)) else AA (NY E ⟨#[10]⟩) λA=>some (A,true)
def GC (fu:Nat) (A:List Int):Nat→ByteArray→Int→Option (ByteArray×Bool)|0=>λ_ _=>none|n+1=>OK fu A (GC fu A n)
def MC fu D A:=GC fu A fu D 0
def O6 (fu:Nat) (A:Plan) (L:ByteArray→Int→Option ByteArray) (J:ByteArray) (D:Int):Option ByteArray:=bif D<A.fV.length then AA (ix A.fV D) λE=>AA (ix A.fE D) λA=>AA (BE 8 [E.f8,E.fF,A.fJ,A.fX,A.fY,A.fZ] E.fK) λA=>AA (MC fu ⟨#[99,97,114,116,111,110]⟩ A) λA=>AA (NY J A.1) λA=>L A (AK (D+1)) else some J
def E4 (fu:Nat) (A:Plan):Nat→ByteArray→Int→Option ByteArray|0=>λ_ _=>none|n+1=>O6 fu A (E4 fu A n)
def MN fu A:=AA (KY fu A) λD=>bif !D then some ⟨#[]⟩ else E4 fu A fu ⟨#[]⟩ 0
def X7 (fu:Nat) (D:ByteArray):Option (ByteArray×Int):=AA (LD fu D) λA=>bif A != 0 then some (⟨#[]⟩,A) else AA (H5 fu D) λA=>AA (Wp fu A.1) λA=>AA (MN fu A.1) λA=>some (A,0)
def V3 (fu:Nat) (A:(List Int)×Bool) (M E:Int) (L:List Int):Option (Carton×Spot×Bool):=AA (ix A.1 2) λN=>AA (ix A.1 3) λD=>AA (ix A.1 4) λJ=>AA (ix A.1 5) λA=>AA (KY fu ⟨[⟨M,E,L⟩],[⟨N,D,J,A⟩]⟩) λO=>bif !O then some (⟨0,0,[]⟩,⟨0,0,0,0⟩,false) else some (⟨M,E,L⟩,⟨N,D,J,A⟩,true)
def VK fu A:=AA (ix A.1 0) λE=>AA (ix A.1 1) λJ=>AA (RA A.1 6 A.1.length) λD=>V3 fu A E J D
def Wk fu D:=AA (L8 fu D 32) λA=>AA (B6 fu D ⟨#[99,97,114,116,111,110]⟩ (AK (A.length - 1))) λD=>bif !D.2 then some (⟨0,0,[]⟩,⟨0,0,0,0⟩,false) else bif AK (A.length - 1)<6 then some (⟨0,0,[]⟩,⟨0,0,0,0⟩,false) else VK fu D
def Oj fu A (M:List Carton→List Spot→Int→Option (Plan×Bool)) E J D:=bif D<A.length then AA (ix A D) λA=>AA (Wk fu A) λA=>bif !A.2.2 then some (⟨[],[]⟩,false) else AA (BE 40 E [A.1]) λL=>AA (BE 32 J [A.2.1]) λA=>M L A (AK (D+1)) else some (⟨E,J⟩,true)
def H4 (fu:Nat) (A:List ByteArray):Nat→List Carton→List Spot→Int→Option (Plan×Bool)|0=>λ_ _ _=>none|n+1=>Oj fu A (H4 fu A n)
def S7 fu A:=AA (RA A 0 (AK (A.length - 1))) λA=>H4 fu A fu [] [] 0
def MB (fu:Nat) (A:ByteArray):Option (Plan×Bool):=AA (L8 fu A 10) λA=>AA (ix A (AK ((A.length:Int) - 1))) λD=>bif !(D.toList==(⟨#[]⟩:ByteArray).toList) then some ((⟨[],[]⟩:Plan),false) else bif AK ((A.length:Int) - 1)>100 then some ((⟨[],[]⟩:Plan),false) else S7 fu A
def DN (fu:Nat) (D:List Carton) (E:Carton→Option Bool) (J:Int→Option Int) (A:Int):Option Int:=bif A<D.length then AA (ix D A) λD=>AA (E D) λD=>bif D then some A else J (AK (A+1)) else some (-1)
def BI (fu:Nat) (A:List Carton) (D:Carton→Option Bool):Nat→Int→Option Int|0=>λ_=>none|n+1=>DN fu A D (BI fu A D n)
def CV fu A D:=BI fu A D fu 0
def CH (fu:Nat) (D:List Carton) (A:Carton→Option Bool):Option Bool:=AA (CV fu D A) λA=>some (A≥0)
def XD (fu:Nat) (A:Carton):Option Bool:=some ((A.fK.length:Int)==0)
def OM (fu:Nat) (D:Plan) (J:List Int→Int→Option (List Int)) (E:List Int) (A:Int):Option (List Int):=bif A<D.fV.length then AA (ix D.fV A) λD=>AA (BE 8 E D.fK) λD=>J D (AK (A+1)) else some E
def IJ (fu:Nat) (A:Plan):Nat→List Int→Int→Option (List Int)|0=>λ_ _=>none|n+1=>OM fu A (IJ fu A n)
def Sk fu A:=IJ fu A fu [] 0
def JU (fu:Nat) (D J:List Int) (E:Int→Option Bool) (A:Int):Option Bool:=bif A<D.length then AA (ix D A) λL=>AA (ix J A) λD=>bif L != D then some false else E (AK (A+1)) else some true
def D3 (fu:Nat) (D A:List Int):Nat→Int→Option Bool|0=>λ_=>none|n+1=>JU fu D A (D3 fu D A n)
def JQ (fu:Nat) (D A:List Int):Option Bool:=bif (D.length:Int) != (A.length:Int) then some false else D3 fu D A fu 0
def OH fu (E:Item) (D:Carton) A:=bif D.fF≥A.length then some true else AA (ix A D.fF) λA=>AA (FH fu A E.fO) λA=>some (!A)
def MX (fu:Nat) (A:Int→Option Int) (D:Int):Option Int:=A (AK (D+1))
def Ld (fu:Nat) (J:Request) (D:Plan) (E:Int→Option Int) (A:Int):Option Int:=bif A<D.fV.length then AA (ix D.fV A) λD=>AA (MG fu J D.fK) λJ=>bif J.1.fe != D.f8 then some 6 else E (AK (A+1)) else some 0
def FX (fu:Nat) (D:Request) (A:Plan):Nat→Int→Option Int|0=>λ_=>none|n+1=>Ld fu D A (FX fu D A n)
def LC fu J D N (M:Int→Option Int) A:=bif A<D.fV.length then AA (ix D.fV A) λE=>AA (J9 fu J E.fK) λL=>AA (BG fu L (λL=>OH fu L E N)) λE=>bif E then some 5 else M (AK (A+1)) else FX fu J D fu 0
def FW (fu:Nat) (E:Request) (D:Plan) (A:List (List Int)):Nat→Int→Option Int|0=>λ_=>none|n+1=>LC fu E D A (FW fu E D A n)
def LH fu A E M D:=bif D<E.fV.length then AA (ix E.fV D) λL=>AA (JC fu A L.f8) λJ=>bif !J.2 then some 4 else AA (U3 fu A L.fK J.1) λJ=>bif !J then some 4 else MX fu M D else AA (JG fu A) λD=>FW fu A E D fu 0
def EH (fu:Nat) (D:Request) (A:Plan):Nat→Int→Option Int|0=>λ_=>none|n+1=>LH fu D A (EH fu D A n)
def L5 fu D A:=EH fu D A fu 0
def VS (fu:Nat) (A:Pallet) (E:Box) (D:Spot):Option Bool:=bif AK (D.fX+E.fW)≤A.fW then bif AK (D.fY+E.fD)≤A.fD then some (AK (D.fZ+E.fH)≤A.fH) else some false else some false
def V6 fu J D A:=AA (CS fu A.fX) λE=>bif !E then some false else AA (CS fu A.fY) λE=>bif !E then some false else AA (CS fu A.fZ) λE=>bif !E then some false else AA (DF fu D.fW) λE=>bif !E then some false else AA (DF fu D.fD) λE=>bif !E then some false else AA (DF fu D.fH) λE=>bif !E then some false else VS fu J D A
def RG fu (D:Box) (A:Spot):=AA (CS fu D.fW) λE=>bif E then AA (CS fu D.fD) λE=>bif E then AA (CS fu D.fH) λD=>bif D then AA (CS fu A.fX) λD=>bif D then AA (CS fu A.fY) λD=>bif D then AA (CS fu A.fZ) λA=>some A else some false else some false else some false else some false else some false
def Pv (fu:Nat) (D E A J:Int):Option Bool:=bif D<AK (A+J) then some (A<AK (D+E)) else some false
def UR fu (J:Box) (E:Spot) (D:Box) (A:Spot):=AA (Pv fu E.fX J.fW A.fX D.fW) λL=>bif L then AA (Pv fu E.fY J.fD A.fY D.fD) λL=>bif L then AA (Pv fu E.fZ J.fH A.fZ D.fH) λA=>some A else some false else some false
def T7 fu J D E A:=AA (RG fu J D) λL=>bif !L then some false else AA (RG fu E A) λL=>bif !L then some false else bif D.fJ != A.fJ then some false else UR fu J D E A
def LQ (fu:Nat) (A:List Int→Int→Option (List Int)) (E:Int) (D:List Int):Option (List Int):=A D (AK (E+1))
def OV (fu:Nat) (E:Plan) (L:Int) (J:List Int→Int→Option (List Int)) (D:List Int) (A:Int):Option (List Int):=bif A<E.fE.length then AA (ix E.fE A) λE=>bif E.fJ==L then AA (BE 8 D [A]) λE=>LQ fu J A E else LQ fu J A D else some D
def F8 (fu:Nat) (A:Plan) (D:Int):Nat→List Int→Int→Option (List Int)|0=>λ_ _=>none|n+1=>OV fu A D (F8 fu A D n)
def MO (fu:Nat) (A:Plan) (D:Int):Option (List Int):=bif (A.fE.length:Int) != (A.fV.length:Int) then some ([]:List Int) else F8 fu A D fu ([]:List Int) 0
def LT fu M (J:Plan) E (L:Int→Int→Option Int) D A:=bif A<E.length then AA (ix E A) λE=>AA (ix J.fV E) λE=>AA (U9 fu M E) λE=>L (AK (D+E)) (AK (A+1)) else some D
def GL (fu:Nat) (E:Request) (D:Plan) (A:List Int):Nat→Int→Int→Option Int|0=>λ_ _=>none|n+1=>LT fu E D A (GL fu E D A n)
def NG fu E A D:=AA (MO fu A D) λD=>GL fu E A D fu 0 0
def Ts (fu:Nat) (D:Int) (A:Plan) (E:List Int):Option Bool:=AA (ix A.fV D) λD=>AA (ix E 0) λE=>AA (ix A.fV E) λA=>some (D.fF != A.fF)
def M3 fu (L:Int→Option Int) (E:Plan) J D (N:Int→Option Int) A:=bif A<D then AA (ix J D) λO=>AA (ix E.fE D) λM=>AA (ix J A) λJ=>AA (ix E.fE A) λE=>AA (T7 fu O M J E) λE=>bif E then some 8 else N (AK (A+1)) else L (AK (D+1))
def HG (fu:Nat) (D:Int→Option Int) (J:Plan) (A:List Box) (E:Int):Nat→Int→Option Int|0=>λ_=>none|n+1=>M3 fu D J A E (HG fu D J A E n)
def Rp (fu:Nat) (A:Int→Option Int) (D:Int):Option Int:=A (AK (D+1))
def QB (fu:Nat) (D:Int→Option Int) (E:Plan) (L:Int) (A:List Int):Option Int:=AA (D1 fu A (λJ=>Ts fu J E A)) λA=>bif A then some 9 else Rp fu D L
def MU (fu:Nat) (J:Request) (D:Plan) (E:Int) (M:Int→Option Int) (A:Int):Option Int:=bif A<E then AA (MO fu D A) λE=>bif (E.length:Int)==0 then some 9 else AA (NG fu J D A) λL=>bif L>J.fJ.fQ then some 9 else QB fu M D A E else some 0
def EE (fu:Nat) (E:Request) (D:Plan) (A:Int):Nat→Int→Option Int|0=>λ_=>none|n+1=>MU fu E D A (EE fu E D A n)
def MT fu L A D J E:=bif E<D.length then HG fu J A D E fu 0 else AA (LG fu A.fE) λD=>EE fu L A D fu 0
def EF (fu:Nat) (E:Request) (D:Plan) (A:List Box):Nat→Int→Option Int|0=>λ_=>none|n+1=>MT fu E D A (EF fu E D A n)
def M4 fu E D (M:List Box→Int→Option Int) L A:=bif A<D.fV.length then AA (ix D.fV A) λJ=>AA (TZ fu E J) λJ=>AA (ix D.fE A) λN=>AA (V6 fu E.fJ J N) λN=>bif !N then some 7 else AA (BE 32 L [J]) λJ=>M J (AK (A+1)) else EF fu E D L fu 0
def HI (fu:Nat) (D:Request) (A:Plan):Nat→List Box→Int→Option Int|0=>λ_ _=>none|n+1=>M4 fu D A (HI fu D A n)
def PU fu D A:=HI fu D A fu [] 0
def WS fu D A:=AA (Sk fu A) λE=>AA (CL fu E) λE=>AA (LV fu D) λJ=>AA (RJ fu J.length) λJ=>AA (JQ fu E J) λE=>bif !E then some 3 else AA (L5 fu D A) λE=>bif E != 0 then some E else AA (PU fu D A) λA=>some A
def UM (fu:Nat) (D:Request) (A:Plan):Option Int:=AA (FZ fu D) λE=>bif !E then some 1 else AA (KY fu A) λE=>bif !E then some 2 else AA (CH fu A.fV (λE=>XD fu E)) λE=>bif E then some 2 else WS fu D A
def RR (fu:Nat) (D E:ByteArray):Option (Int×Int):=AA (LD fu D) λA=>bif A != 0 then some (A,1) else AA (H5 fu D) λD=>AA (MB fu E) λA=>bif !A.2 then some (0,2) else AA (UM fu D.1 A.1) λA=>some (0,A)
def VW (fu:Nat) (D N:Int) (A:List Int) (E L J M:Int):Option (Carton×Spot×Bool):=some (⟨D,N,A⟩,⟨E,L,J,M⟩,true)
def PI fu (Q:ByteArray) A D M N:=AA (ix A 2) λL=>AA (ix A 3) λJ=>AA (ix A 4) λE=>AA (ix A 5) λA=>AA (IQ fu ⟨[⟨D,M,N⟩],[⟨L,J,E,A⟩]⟩) λO=>bif !O then some (⟨0,0,[]⟩,⟨0,0,0,0⟩,false) else AA (LB fu ⟨D,M,N⟩ ⟨L,J,E,A⟩) λO=>bif !(O.toList==Q.toList) then some (⟨0,0,[]⟩,⟨0,0,0,0⟩,false) else VW fu D M N L J E A
def TG (fu:Nat) (L:ByteArray) (E:List ByteArray) (J:List Int→Int→Option (Carton×Spot×Bool)) (A:List Int) (D:Int):Option (Carton×Spot×Bool):=bif D<(E.length:Int) then AA (ix E D) λE=>AA (MR fu E) λE=>bif !E.2 then some ((⟨0,0,[]⟩:Carton),(⟨0,0,0,0⟩:Spot),false) else AA (BE 8 A ([E.1]:List Int)) λE=>J E (AK (D+1)) else bif (A.length:Int)<6 then some ((⟨0,0,[]⟩:Carton),(⟨0,0,0,0⟩:Spot),false) else AA (ix A 0) λE=>AA (ix A 1) λJ=>AA (RA A 6 (A.length:Int)) λD=>AA (BE 8 ([]:List Int) D) λD=>PI fu L A E J D
def J6 (fu:Nat) (D:ByteArray) (A:List ByteArray):Nat→List Int→Int→Option (Carton×Spot×Bool)|0=>λ_ _=>none|n+1=>TG fu D A (J6 fu D A n)
def Wo fu A:=AA (LY fu A 32) λD=>J6 fu A D fu [] 1
def O1 (fu:Nat) (A:List ByteArray) (M:List Carton→List Spot→Int→Option (Plan×Bool)) (L:List Carton) (D:List Spot) (J:Int):Option (Plan×Bool):=bif J<AK ((A.length:Int) - 1) then AA (ix A J) λE=>AA (Wo fu E) λE=>bif !E.2.2 then some ((⟨[],[]⟩:Plan),false) else AA (BE 40 L [E.1]) λN=>AA (BE 32 D ([E.2.1]:List Spot)) λE=>M N E (AK (J+1)) else AA (ix A (AK ((A.length:Int) - 1))) λA=>bif !(A.toList==(⟨#[]⟩:ByteArray).toList) then some ((⟨[],[]⟩:Plan),false) else AA (IQ fu (⟨L,D⟩:Plan)) λA=>bif !A then some ((⟨[],[]⟩:Plan),false) else some ((⟨L,D⟩:Plan),true)
def H6 (fu:Nat) (A:List ByteArray):Nat→List Carton→List Spot→Int→Option (Plan×Bool)|0=>λ_ _ _=>none|n+1=>O1 fu A (H6 fu A n)
def SD fu A:=AA (LY fu A 10) λA=>H6 fu A fu [] [] 0
def OG (fu:Nat) (D:Plan) (E:Int→Option Bool) (A:Int):Option Bool:=bif A<(D.fV.length:Int) then AA (ix D.fV A) λD=>bif (D.fK.length:Int)==0 then some true else E (AK (A+1)) else some false
def IC (fu:Nat) (A:Plan):Nat→Int→Option Bool|0=>λ_=>none|n+1=>OG fu A (IC fu A n)
def SE fu A:=IC fu A fu 0
def QG (fu:Nat) (D:Plan) (J:List Int→Int→Option (List Int)) (E:List Int) (A:Int):Option (List Int):=bif A<D.fV.length then AA (ix D.fV A) λD=>AA (BE 8 E D.fK) λD=>J D (AK (A+1)) else some E
def JA (fu:Nat) (A:Plan):Nat→List Int→Int→Option (List Int)|0=>λ_ _=>none|n+1=>QG fu A (JA fu A n)
def Vi fu A:=JA fu A fu [] 0
def YK (fu:Nat) (A:Bool):Option Int:=bif A then some 1 else some 0
def P2 (fu:Nat) (D:List Int) (J:Int) (L:Int→Int→Option Int) (E A:Int):Option Int:=bif A<D.length then AA (ix D A) λD=>AA (YK fu (D==J)) λD=>L (AK (E+D)) (AK (A+1)) else some E
def Je (fu:Nat) (A:List Int) (D:Int):Nat→Int→Int→Option Int|0=>λ_ _=>none|n+1=>P2 fu A D (Je fu A D n)
def UE fu A D:=Je fu A D fu 0 0
def N8 (fu:Nat) (J D:List Int) (E:Int→Option Bool) (A:Int):Option Bool:=bif A<J.length then AA (UE fu D A) λD=>bif D != 1 then some false else E (AK (A+1)) else some true
def IE (fu:Nat) (D:List Int) (A:List Int):Nat→Int→Option Bool|0=>λ_=>none|n+1=>N8 fu D A (IE fu D A n)
def Sb (fu:Nat) (D:List Int) (A:Plan):Option Bool:=AA (Vi fu A) λA=>bif (A.length:Int) != (D.length:Int) then some false else IE fu D A fu 0
def S4 (fu:Nat) (D:Int→Option Bool) (A:Int):Option Bool:=D (AK (A+1))
def Tc fu J M (D:Plan) A L E:=bif !E then some false else AA (ix D.fV A) λD=>AA (UP fu M D.fK L) λD=>bif !D then some false else S4 fu J A
def OE fu J D L A:=bif A<D.fV.length then AA (ix D.fV A) λE=>AA (KF fu J E.f8) λE=>Tc fu L J D A E.1 E.2 else some true
def E0 (fu:Nat) (D:Request) (A:Plan):Nat→Int→Option Bool|0=>λ_=>none|n+1=>OE fu D A (E0 fu D A n)
def Sx fu D A:=E0 fu D A fu 0
def QZ fu D J (E:Int→Option Int) A:=bif A<D.length then AA (ix D A) λD=>AA (PL fu D J) λD=>bif D then some A else E (AK (A+1)) else some (-1)
def I5 (fu:Nat) (A:List (List Int)) (D:Int):Nat→Int→Option Int|0=>λ_=>none|n+1=>QZ fu A D (I5 fu A D n)
def Ul fu A D:=I5 fu A D fu 0
def SN (fu:Nat) (A:Int→Option Bool) (D:Int):Option Bool:=A (AK (D+1))
def TM (fu:Nat) (D:Int→Option Bool) (A:Int):Option Bool:=D (AK (A+1))
def Tk fu E (D:Plan) M J L (A:Item):=AA (ix D.fV J) λD=>AA (Ul fu M A.fO) λA=>bif A != D.fF then some false else TM fu E L
def OI fu O Q L E N A M D:=AA (ix E.fV A) λJ=>bif D<J.fK.length then AA (ix E.fV A) λ_=>AA (ix J.fK D) λJ=>AA (K4 fu Q L J) λJ=>Tk fu M E N A D J.1 else SN fu O A
def E6 (fu:Nat) (L:Int→Option Bool) (M:Request) (A:List Int) (D:Plan) (J:List (List Int)) (E:Int):Nat→Int→Option Bool|0=>λ_=>none|n+1=>OI fu L M A D J E (E6 fu L M A D J E n)
def OZ fu M E A J L D:=bif D<A.fV.length then E6 fu L M E A J D fu 0 else some true
def DA (fu:Nat) (J:Request) (E:List Int) (D:Plan) (A:List (List Int)):Nat→Int→Option Bool|0=>λ_=>none|n+1=>OZ fu J E D A (DA fu J E D A n)
def Sf fu A J E:=AA (JH fu A) λD=>DA fu A J E D fu 0
def SL (fu:Nat) (D:Int→Option Bool) (A:Int):Option Bool:=D (AK (A+1))
def SP fu J (E:Plan) A (L:Typ) D:=bif !D then some false else AA (ix E.fV A) λD=>bif L.fe != D.f8 then some false else SL fu J A
def O5 fu L D J A:=bif A<D.fV.length then AA (ix D.fV A) λE=>AA (MK fu L E.fK) λE=>SP fu J D A E.1 E.2 else some true
def EY (fu:Nat) (D:Request) (A:Plan):Nat→Int→Option Bool|0=>λ_=>none|n+1=>O5 fu D A (EY fu D A n)
def R4 fu D A:=EY fu D A fu 0
def KI fu (D:Box) (A:Spot):=AA (A2 fu D.fW 0 2000) λE=>bif E then AA (A2 fu D.fD 0 2000) λE=>bif E then AA (A2 fu D.fH 0 2000) λD=>bif D then AA (A2 fu A.fX 0 2000) λD=>bif D then AA (A2 fu A.fY 0 2000) λD=>bif D then AA (A2 fu A.fZ 0 2000) λA=>some A else some false else some false else some false else some false else some false
def Wy (fu:Nat) (E:Pallet) (A:Box) (D:Spot):Option Bool:=AA (KI fu A D) λJ=>bif J then bif A.fW>0 then bif A.fD>0 then bif A.fH>0 then bif AK (D.fX+A.fW)≤E.fW then bif AK (D.fY+A.fD)≤E.fD then some (AK (D.fZ+A.fH)≤E.fH) else some false else some false else some false else some false else some false else some false
def M1 (fu:Nat) (E:Request) (D:Plan) (L:Int→Option Bool) (A:Int):Option Bool:=bif A<D.fV.length then AA (ix D.fV A) λJ=>AA (ix D.fE A) λD=>AA (L0 fu E J) λJ=>AA (Wy fu E.fJ J D) λD=>bif !D then some false else L (AK (A+1)) else some true
def HC (fu:Nat) (D:Request) (A:Plan):Nat→Int→Option Bool|0=>λ_=>none|n+1=>M1 fu D A (HC fu D A n)
def PJ fu D A:=HC fu D A fu 0
def KM (fu:Nat) (D J A E:Int):Option Bool:=bif D<AK (A+E) then some (A<AK (D+J)) else some false
def UN fu J D E A:=AA (KI fu J D) λL=>bif L then AA (KI fu E A) λL=>bif L then bif D.fJ==A.fJ then AA (KM fu D.fX J.fW A.fX E.fW) λL=>bif L then AA (KM fu D.fY J.fD A.fY E.fD) λL=>bif L then AA (KM fu D.fZ J.fH A.fZ E.fH) λA=>some A else some false else some false else some false else some false else some false
def N9 fu (L:Int→Option Bool) J (E:Plan) A (N:Int→Option Bool) D:=bif D<A then AA (ix E.fV A) λO=>AA (ix E.fE A) λQ=>AA (ix E.fV D) λM=>AA (ix E.fE D) λE=>AA (L0 fu J O) λO=>AA (L0 fu J M) λJ=>AA (UN fu O Q J E) λE=>bif E then some false else N (AK (D+1)) else L (AK (A+1))
def IH (fu:Nat) (A:Int→Option Bool) (J:Request) (E:Plan) (D:Int):Nat→Int→Option Bool|0=>λ_=>none|n+1=>N9 fu A J E D (IH fu A J E D n)
def OL fu J D E A:=bif A<D.fV.length then IH fu E J D A fu 0 else some true
def E8 (fu:Nat) (D:Request) (A:Plan):Nat→Int→Option Bool|0=>λ_=>none|n+1=>OL fu D A (E8 fu D A n)
def R9 fu D A:=E8 fu D A fu 0
def LR (fu:Nat) (D:List Int→Int→Option (List Int)) (E:Int) (A:List Int):Option (List Int):=D A (AK (E+1))
def SZ fu E (J:Plan) L D A:=AA (ix J.fE A) λJ=>bif J.fJ==L then AA (BE 8 D [A]) λJ=>LR fu E A J else LR fu E A D
def KN (fu:Nat) (A:Plan) (L:Int) (J:List Int→Int→Option (List Int)) (D:List Int) (E:Int):Option (List Int):=bif E<(A.fV.length:Int) then bif (A.fV.length:Int)==(A.fE.length:Int) then SZ fu J A L D E else some D else some D
def D7 (fu:Nat) (A:Plan) (D:Int):Nat→List Int→Int→Option (List Int)|0=>λ_ _=>none|n+1=>KN fu A D (D7 fu A D n)
def MH fu A D:=D7 fu A D fu [] 0
def LZ fu M (J:Plan) E (L:Int→Int→Option Int) D A:=bif A<E.length then AA (ix E A) λE=>AA (ix J.fV E) λE=>AA (Vs fu M E) λE=>L (AK (D+E)) (AK (A+1)) else some D
def GH (fu:Nat) (E:Request) (D:Plan) (A:List Int):Nat→Int→Int→Option Int|0=>λ_ _=>none|n+1=>LZ fu E D A (GH fu E D A n)
def NF fu E A D:=AA (MH fu A D) λD=>GH fu E A D fu 0 0
def O8 (fu:Nat) (A:Int→Option Bool) (D:Int):Option Bool:=A (AK (D+1))
def Mq fu M (E:Plan) L D (N:Int→Option Bool) A:=bif A<D.length then AA (ix D A) λJ=>AA (ix E.fV J) λJ=>AA (ix D 0) λD=>AA (ix E.fV D) λD=>bif J.fF != D.fF then some false else N (AK (A+1)) else O8 fu M L
def GK (fu:Nat) (D:Int→Option Bool) (E:Plan) (A:Int) (J:List Int):Nat→Int→Option Bool|0=>λ_=>none|n+1=>Mq fu D E A J (GK fu D E A J n)
def OA fu D E A J:=GK fu D E A J fu 1
def L9 (fu:Nat) (J:Request) (D:Plan) (E:Int) (M:Int→Option Bool) (A:Int):Option Bool:=bif A<E then AA (MH fu D A) λE=>bif (E.length:Int)==0 then some false else AA (NF fu J D A) λL=>bif L>J.fJ.fQ then some false else OA fu M D A E else some true
def CX (fu:Nat) (E:Request) (D:Plan) (A:Int):Nat→Int→Option Bool|0=>λ_=>none|n+1=>L9 fu E D A (CX fu E D A n)
def NN fu E A:=AA (N2 fu A.fE) λD=>CX fu E A D fu 0
def WT (fu:Nat) (D:Request) (A:Plan):Option Int:=AA (C9 fu D) λE=>AA (Sb fu E A) λJ=>bif !J then some 3 else AA (Sx fu D A) λJ=>bif !J then some 4 else AA (Sf fu D E A) λE=>bif !E then some 5 else AA (R4 fu D A) λE=>bif !E then some 6 else AA (PJ fu D A) λE=>bif !E then some 7 else AA (R9 fu D A) λE=>bif !E then some 8 else AA (NN fu D A) λA=>bif !A then some 9 else some 0
def Xp (fu:Nat) (D:Request) (A:Plan):Option Int:=AA (EK fu D) λE=>bif E != 0 then some 1 else AA (IQ fu A) λE=>bif !E then some 2 else AA (SE fu A) λE=>bif E then some 2 else WT fu D A
def Wv (fu:Nat) (D E:ByteArray):Option (Int×Int):=AA (OB fu D) λA=>bif A != 0 then some (A,1) else AA (J8 fu D) λD=>AA (SD fu E) λA=>bif !A.2 then some (0,2) else AA (Xp fu D.1 A.1) λA=>some (0,A)
def SI fu D A:=AA (UM fu D A) λA=>some (A==0)
end Go.Proofs.YtdgpkmgnjdpieaaGreatDoor
