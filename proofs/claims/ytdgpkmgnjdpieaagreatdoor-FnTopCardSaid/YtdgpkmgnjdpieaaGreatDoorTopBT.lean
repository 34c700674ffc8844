/- FnTop: facts on type.. -/
import Derived.Test.YtdgpkmgnjdpieaaGreatDoorTopBD
import Derived.Test.YtdgpkmgnjdpieaaGreatDoorS15
import Derived.Test.YtdgpkmgnjdpieaaGreatDoorS12
import Derived.Test.YtdgpkmgnjdpieaaGreatDoorS26
import Derived.Test.YtdgpkmgnjdpieaaGreatDoorProg
import Derived.Test.YtdgpkmgnjdpieaaGreatDoorShelf
set_option maxRecDepth 20000
set_option linter.unusedSimpArgs false
set_option linter.unusedVariables false
set_option linter.unnecessarySimpa false
namespace Go.Proofs.YtdgpkmgnjdpieaaGreatDoor
open Go Go.RowKit
open Enc (rd ow)
open Arg (argv)
open Ret (retv)
open Go.Proofs.Tryz

theorem hU:Tryz.prog.follows .mixedOrders=true:=AQ
theorem g9:TS Tryz.prog 22 1:=⟨5,Tryz.underlying22,Tryz.sizeOf5⟩
theorem t15:T1 Tryz.prog 5:=⟨λw=>by simp [isAgg,run_underlying Tryz.underlying5],Tryz.sizeOf5⟩
theorem yV:BT Tryz.prog 75 [.slice none 0 0,I 0,I 0] #[(0,1),(1,1),(2,1)]:=⟨Tryz.zeroValue75,_,Tryz.underlying75,λw=>by simp [Tryz.sizeOf22,Tryz.sizeOf3]⟩
theorem w3:FA Tryz.prog 75 2 2:=DQ (n:=0) Tryz.underlying75 z z Tryz.sizeOf3
theorem GP:T1 Tryz.prog 3:=⟨λw=>by simp [isAgg,run_underlying Tryz.underlying3],Tryz.sizeOf3⟩
theorem wE:FA Tryz.prog 75 1 1:=DQ (n:=0) Tryz.underlying75 z z Tryz.sizeOf3
theorem wt:FA Tryz.prog 75 0 0:=DQ (n:=0) Tryz.underlying75 z z Tryz.sizeOf22
theorem zK:T1 Tryz.prog 22:=⟨λw=>by simp [isAgg,run_underlying Tryz.underlying22],Tryz.sizeOf22⟩
theorem FX:TS Tryz.prog 64 1:=⟨3,Tryz.underlying64,Tryz.sizeOf3⟩
theorem AV:TE Tryz.prog 64 1 8 [I 0]:=⟨3,Tryz.t3,Tryz.underlying64,Tryz.type3,⟨_,z,z⟩,z,z,z,A1⟩
theorem u4:BT Tryz.prog 32 [I 0,I 0,I 0,I 0] #[(0,1),(1,1),(2,1),(3,1)]:=⟨Tryz.zeroValue32,_,Tryz.underlying32,λw=>by simp [Tryz.sizeOf3]⟩
theorem av:BT Tryz.prog 37 [I 0,I 0,I 0,I 0,I 0,I 0,.slice none 0 0,.slice none 0 0,I 0,.slice none 0 0] #[(0,1),(1,4),(5,1),(6,1),(7,1),(8,1),(9,1)]:=⟨Tryz.zeroValue37,_,Tryz.underlying37,λw=>by simp [Tryz.sizeOf3,Tryz.sizeOf32,Tryz.sizeOf33,Tryz.sizeOf34,Tryz.sizeOf35]⟩
theorem m8:FA Tryz.prog 37 2 5:=DQ (n:=0) Tryz.underlying37 z z Tryz.sizeOf3
theorem TP:FA Tryz.prog 37 3 6:=DQ (n:=0) Tryz.underlying37 z z Tryz.sizeOf33
theorem ua:T1 Tryz.prog 33:=⟨λw=>by simp [isAgg,run_underlying Tryz.underlying33],Tryz.sizeOf33⟩
theorem fp:BT Tryz.prog 100 [I 0,I 0] #[(0,1),(1,1)]:=⟨Tryz.zeroValue100,_,Tryz.underlying100,λw=>by simp [Tryz.sizeOf3]⟩
theorem aW:TE Tryz.prog 33 2 16 [I 0,I 0]:=⟨100,Tryz.t100,Tryz.underlying33,Tryz.type100,⟨_,z,z⟩,z,z,z,A1⟩
theorem IY:FA Tryz.prog 37 4 7:=DQ (n:=0) Tryz.underlying37 z z Tryz.sizeOf34
theorem rn:T1 Tryz.prog 34:=⟨λw=>by simp [isAgg,run_underlying Tryz.underlying34],Tryz.sizeOf34⟩
theorem W1:BT Tryz.prog 102 [I 0,I 0,I 0,I 0,I 0,I 0,I 0] #[(0,1),(1,1),(2,1),(3,1),(4,1),(5,1),(6,1)]:=⟨Tryz.zeroValue102,_,Tryz.underlying102,λw=>by simp [Tryz.sizeOf3]⟩
theorem PB:TE Tryz.prog 34 7 56 [I 0,I 0,I 0,I 0,I 0,I 0,I 0]:=⟨102,Tryz.t102,Tryz.underlying34,Tryz.type102,⟨_,z,z⟩,z,z,z,A1⟩
theorem Y1:BT Tryz.prog 104 [I 0,I 0,I 0,I 0,I 0,I 0,I 0] #[(0,1),(1,1),(2,1),(3,1),(4,1),(5,1),(6,1)]:=⟨Tryz.zeroValue104,_,Tryz.underlying104,λw=>by simp [Tryz.sizeOf3]⟩
theorem pb:FA Tryz.prog 104 1 1:=DQ (n:=0) Tryz.underlying104 z z Tryz.sizeOf3
theorem oG:FA Tryz.prog 104 2 2:=DQ (n:=0) Tryz.underlying104 z z Tryz.sizeOf3
theorem n3:FA Tryz.prog 104 3 3:=DQ (n:=0) Tryz.underlying104 z z Tryz.sizeOf3
theorem uQ:FA Tryz.prog 104 6 6:=DQ (n:=0) Tryz.underlying104 z z Tryz.sizeOf3
theorem WN:FA Tryz.prog 37 6 9:=DQ (n:=0) Tryz.underlying37 z z Tryz.sizeOf35
theorem vg:T1 Tryz.prog 35:=⟨λw=>by simp [isAgg,run_underlying Tryz.underlying35],Tryz.sizeOf35⟩
theorem mA:TA Tryz.prog 104 7:=⟨Tryz.isAgg104,Tryz.sizeOf104⟩
theorem YV:TE Tryz.prog 35 7 56 [I 0,I 0,I 0,I 0,I 0,I 0,I 0]:=⟨104,Tryz.t104,Tryz.underlying35,Tryz.type104,⟨_,z,z⟩,z,z,z,A1⟩
theorem SZ:TA Tryz.prog 37 10:=⟨Tryz.isAgg37,Tryz.sizeOf37⟩
theorem qW:FA Tryz.prog 37 0 0:=DQ (n:=0) Tryz.underlying37 z z Tryz.sizeOf3
theorem kR:FA Tryz.prog 37 1 1:=DQ (n:=3) Tryz.underlying37 z z Tryz.sizeOf32
theorem wO:FA Tryz.prog 32 0 0:=DQ (n:=0) Tryz.underlying32 z z Tryz.sizeOf3
theorem wB:FA Tryz.prog 32 3 3:=DQ (n:=0) Tryz.underlying32 z z Tryz.sizeOf3
theorem sW:TS Tryz.prog 34 7:=⟨102,Tryz.underlying34,Tryz.sizeOf102⟩
theorem kA:FA Tryz.prog 102 2 2:=DQ (n:=0) Tryz.underlying102 z z Tryz.sizeOf3
theorem oN:FA Tryz.prog 102 5 5:=DQ (n:=0) Tryz.underlying102 z z Tryz.sizeOf3
theorem tv:FA Tryz.prog 37 5 8:=DQ (n:=0) Tryz.underlying37 z z Tryz.sizeOf3
theorem vd:TS Tryz.prog 35 7:=⟨104,Tryz.underlying35,Tryz.sizeOf104⟩
theorem tP:TS Tryz.prog 33 2:=⟨100,Tryz.underlying33,Tryz.sizeOf100⟩
theorem YT:TA Tryz.prog 102 7:=⟨Tryz.isAgg102,Tryz.sizeOf102⟩
theorem XA:TE Tryz.prog 59 1 16 [.string ⟨#[]⟩]:=⟨9,Tryz.t9,Tryz.underlying59,Tryz.type9,⟨_,z,z⟩,z,z,z,A1⟩
theorem wU:FA Tryz.prog 32 1 1:=DQ (n:=0) Tryz.underlying32 z z Tryz.sizeOf3
theorem xu:FA Tryz.prog 32 2 2:=DQ (n:=0) Tryz.underlying32 z z Tryz.sizeOf3
theorem Rm:TE Tryz.prog 84 1 24 [.slice none 0 0]:=⟨64,Tryz.t64,Tryz.underlying84,Tryz.type64,⟨_,z,z⟩,z,z,z,A1⟩
theorem pm:FA Tryz.prog 100 0 0:=DQ (n:=0) Tryz.underlying100 z z Tryz.sizeOf3
theorem oS:FA Tryz.prog 100 1 1:=DQ (n:=0) Tryz.underlying100 z z Tryz.sizeOf3
theorem va:FA Tryz.prog 102 0 0:=DQ (n:=0) Tryz.underlying102 z z Tryz.sizeOf3
theorem kE:FA Tryz.prog 102 1 1:=DQ (n:=0) Tryz.underlying102 z z Tryz.sizeOf3
theorem kh:FA Tryz.prog 102 3 3:=DQ (n:=0) Tryz.underlying102 z z Tryz.sizeOf3
theorem u6:FA Tryz.prog 102 4 4:=DQ (n:=0) Tryz.underlying102 z z Tryz.sizeOf3
theorem uR:FA Tryz.prog 102 6 6:=DQ (n:=0) Tryz.underlying102 z z Tryz.sizeOf3
theorem vf:FA Tryz.prog 104 0 0:=DQ (n:=0) Tryz.underlying104 z z Tryz.sizeOf3
theorem vj:FA Tryz.prog 104 4 4:=DQ (n:=0) Tryz.underlying104 z z Tryz.sizeOf3
theorem uf:FA Tryz.prog 104 5 5:=DQ (n:=0) Tryz.underlying104 z z Tryz.sizeOf3
theorem zM:TE Tryz.prog 22 1 1 [.int .u8 0]:=⟨5,Tryz.t5,Tryz.underlying22,Tryz.type5,⟨_,z,z⟩,z,z,z,A1⟩
theorem uq:TS Tryz.prog 59 1:=⟨9,Tryz.underlying59,Tryz.sizeOf9⟩
theorem t19:T1 Tryz.prog 9:=⟨λw=>by simp [isAgg,run_underlying Tryz.underlying9],Tryz.sizeOf9⟩
theorem dA:TS Tryz.prog 84 1:=⟨64,Tryz.underlying84,Tryz.sizeOf64⟩
theorem Yn:T1 Tryz.prog 64:=⟨λw=>by simp [isAgg,run_underlying Tryz.underlying64],Tryz.sizeOf64⟩
theorem zS:TA Tryz.prog 32 4:=⟨Tryz.isAgg32,Tryz.sizeOf32⟩
theorem yM:BT Tryz.prog 207 [I 0,I 0] #[(0,1),(1,1)]:=⟨Tryz.zeroValue207,_,Tryz.underlying207,λw=>by simp [Tryz.sizeOf3]⟩
theorem er:FA Tryz.prog 207 0 0:=DQ (n:=0) Tryz.underlying207 z z Tryz.sizeOf3
theorem up:FA Tryz.prog 207 1 1:=DQ (n:=0) Tryz.underlying207 z z Tryz.sizeOf3
theorem vH:TA Tryz.prog 207 2:=⟨Tryz.isAgg207,Tryz.sizeOf207⟩
theorem u5:FD Tryz.prog 207 0 0 1 false:=⟨_,_,Tryz.underlying207,z,z,(λw=>by simp [isAgg,run_underlying Tryz.underlying3]),Tryz.sizeOf3⟩
theorem XR:TE Tryz.prog 40 3 40 [I 0,I 0,.slice none 0 0]:=⟨66,Tryz.t66,Tryz.underlying40,Tryz.type66,⟨_,z,z⟩,z,z,z,A1⟩
theorem bD:BT Tryz.prog 66 [I 0,I 0,.slice none 0 0] #[(0,1),(1,1),(2,1)]:=⟨Tryz.zeroValue66,_,Tryz.underlying66,λw=>by simp [Tryz.sizeOf3,Tryz.sizeOf64]⟩
theorem mY:FA Tryz.prog 66 0 0:=DQ (n:=0) Tryz.underlying66 z z Tryz.sizeOf3
theorem cG:FA Tryz.prog 66 2 2:=DQ (n:=0) Tryz.underlying66 z z Tryz.sizeOf64
theorem qz:BT Tryz.prog 93 [I 0,I 0,I 0,I 0] #[(0,1),(1,1),(2,1),(3,1)]:=⟨Tryz.zeroValue93,_,Tryz.underlying93,λw=>by simp [Tryz.sizeOf3]⟩
theorem OJ:TA Tryz.prog 66 3:=⟨Tryz.isAgg66,Tryz.sizeOf66⟩
theorem io:TA Tryz.prog 93 4:=⟨Tryz.isAgg93,Tryz.sizeOf93⟩
theorem zO:TS Tryz.prog 92 4:=⟨93,Tryz.underlying92,Tryz.sizeOf93⟩
theorem mN:FA Tryz.prog 93 0 0:=DQ (n:=0) Tryz.underlying93 z z Tryz.sizeOf3
theorem nl:FA Tryz.prog 93 1 1:=DQ (n:=0) Tryz.underlying93 z z Tryz.sizeOf3
theorem m2:FA Tryz.prog 93 2 2:=DQ (n:=0) Tryz.underlying93 z z Tryz.sizeOf3
theorem mV:FA Tryz.prog 93 3 3:=DQ (n:=0) Tryz.underlying93 z z Tryz.sizeOf3
theorem nH:FA Tryz.prog 145 0 0:=DQ (n:=0) Tryz.underlying145 z z Tryz.sizeOf64
theorem d6:FA Tryz.prog 145 1 1:=DQ (n:=0) Tryz.underlying145 z z Tryz.sizeOf3
theorem ZM:FA Tryz.prog 145 2 2:=DQ (n:=0) Tryz.underlying145 z z Tryz.sizeOf3
theorem ZQ:FA Tryz.prog 145 3 3:=DQ (n:=0) Tryz.underlying145 z z Tryz.sizeOf3
theorem ZL:FA Tryz.prog 145 4 4:=DQ (n:=0) Tryz.underlying145 z z Tryz.sizeOf3
theorem a6:BT Tryz.prog 145 [.slice none 0 0,I 0,I 0,I 0,I 0] #[(0,1),(1,1),(2,1),(3,1),(4,1)]:=⟨Tryz.zeroValue145,_,Tryz.underlying145,λw=>by simp [Tryz.sizeOf3,Tryz.sizeOf64]⟩
theorem dc:TA Tryz.prog 145 5:=⟨Tryz.isAgg145,Tryz.sizeOf145⟩
theorem X3:TE Tryz.prog 134 5 56 [.slice none 0 0,I 0,I 0,I 0,I 0]:=⟨145,Tryz.t145,Tryz.underlying134,Tryz.type145,⟨_,z,z⟩,z,z,z,A1⟩
theorem sj:TS Tryz.prog 134 5:=⟨145,Tryz.underlying134,Tryz.sizeOf145⟩
theorem X0:TE Tryz.prog 136 4 48 [.slice none 0 0,I 0,I 0,I 0]:=⟨143,Tryz.t143,Tryz.underlying136,Tryz.type143,⟨_,z,z⟩,z,z,z,A1⟩
theorem oT:TS Tryz.prog 136 4:=⟨143,Tryz.underlying136,Tryz.sizeOf143⟩
theorem d7:FA Tryz.prog 143 1 1:=DQ (n:=0) Tryz.underlying143 z z Tryz.sizeOf3
theorem ZO:FA Tryz.prog 143 3 3:=DQ (n:=0) Tryz.underlying143 z z Tryz.sizeOf3
theorem bq:BT Tryz.prog 143 [.slice none 0 0,I 0,I 0,I 0] #[(0,1),(1,1),(2,1),(3,1)]:=⟨Tryz.zeroValue143,_,Tryz.underlying143,λw=>by simp [Tryz.sizeOf3,Tryz.sizeOf64]⟩
theorem my:TA Tryz.prog 143 4:=⟨Tryz.isAgg143,Tryz.sizeOf143⟩
theorem pK:FA Tryz.prog 143 0 0:=DQ (n:=0) Tryz.underlying143 z z Tryz.sizeOf64
theorem ZB:FA Tryz.prog 143 2 2:=DQ (n:=0) Tryz.underlying143 z z Tryz.sizeOf3
theorem X1:TE Tryz.prog 138 3 40 [.slice none 0 0,I 0,I 0]:=⟨141,Tryz.t141,Tryz.underlying138,Tryz.type141,⟨_,z,z⟩,z,z,z,A1⟩
theorem oa:TS Tryz.prog 138 3:=⟨141,Tryz.underlying138,Tryz.sizeOf141⟩
theorem eB:FA Tryz.prog 141 1 1:=DQ (n:=0) Tryz.underlying141 z z Tryz.sizeOf3
theorem ep:FA Tryz.prog 141 2 2:=DQ (n:=0) Tryz.underlying141 z z Tryz.sizeOf3
theorem aV:BT Tryz.prog 141 [.slice none 0 0,I 0,I 0] #[(0,1),(1,1),(2,1)]:=⟨Tryz.zeroValue141,_,Tryz.underlying141,λw=>by simp [Tryz.sizeOf3,Tryz.sizeOf64]⟩
theorem vU:TA Tryz.prog 141 3:=⟨Tryz.isAgg141,Tryz.sizeOf141⟩
theorem pp:FA Tryz.prog 141 0 0:=DQ (n:=0) Tryz.underlying141 z z Tryz.sizeOf64
theorem XK:TE Tryz.prog 41 4 32 [I 0,I 0,I 0,I 0]:=⟨68,Tryz.t68,Tryz.underlying41,Tryz.type68,⟨_,z,z⟩,z,z,z,A1⟩
theorem ZW:BT Tryz.prog 68 [I 0,I 0,I 0,I 0] #[(0,1),(1,1),(2,1),(3,1)]:=⟨Tryz.zeroValue68,_,Tryz.underlying68,λw=>by simp [Tryz.sizeOf3]⟩
theorem qv:TS Tryz.prog 41 4:=⟨68,Tryz.underlying41,Tryz.sizeOf68⟩
theorem rs:FA Tryz.prog 68 0 0:=DQ (n:=0) Tryz.underlying68 z z Tryz.sizeOf3
theorem be:BT Tryz.prog 43 [.slice none 0 0,.slice none 0 0] #[(0,1),(1,1)]:=⟨Tryz.zeroValue43,_,Tryz.underlying43,λw=>by simp [Tryz.sizeOf40,Tryz.sizeOf41]⟩
theorem YH:TA Tryz.prog 43 2:=⟨Tryz.isAgg43,Tryz.sizeOf43⟩
theorem kd:TE Tryz.prog 92 4 32 [I 0,I 0,I 0,I 0]:=⟨93,Tryz.t93,Tryz.underlying92,Tryz.type93,⟨_,z,z⟩,z,z,z,A1⟩
theorem P6:FA Tryz.prog 43 0 0:=DQ (n:=0) Tryz.underlying43 z z Tryz.sizeOf40
theorem lq:T1 Tryz.prog 40:=⟨λw=>by simp [isAgg,run_underlying Tryz.underlying40],Tryz.sizeOf40⟩
theorem iY:TS Tryz.prog 40 3:=⟨66,Tryz.underlying40,Tryz.sizeOf66⟩
theorem fj:FA Tryz.prog 66 1 1:=DQ (n:=0) Tryz.underlying66 z z Tryz.sizeOf3
theorem dJ:TA Tryz.prog 68 4:=⟨Tryz.isAgg68,Tryz.sizeOf68⟩
theorem SJ:FA Tryz.prog 43 1 1:=DQ (n:=0) Tryz.underlying43 z z Tryz.sizeOf41
theorem t141:T1 Tryz.prog 41:=⟨λw=>by simp [isAgg,run_underlying Tryz.underlying41],Tryz.sizeOf41⟩
theorem mO:FA Tryz.prog 68 1 1:=DQ (n:=0) Tryz.underlying68 z z Tryz.sizeOf3
theorem wq:FA Tryz.prog 68 2 2:=DQ (n:=0) Tryz.underlying68 z z Tryz.sizeOf3
theorem rm:FA Tryz.prog 68 3 3:=DQ (n:=0) Tryz.underlying68 z z Tryz.sizeOf3
theorem y4:TA Tryz.prog 100 2:=⟨Tryz.isAgg100,Tryz.sizeOf100⟩
theorem wZ:zB Tryz.prog 100 Pair:=t6 Tryz.underlying100 Tryz.stoodInHeld100 Tryz.eqGuardType100 Tryz.underlying3 z
theorem yJ:T1 Tryz.prog 84:=⟨λw=>by simp [isAgg,run_underlying Tryz.underlying84],Tryz.sizeOf84⟩
theorem AE {w:World} {x:Request} {E M J:List Nat} {L D A:Value} (O:rd w E [L] x.fT) (Q:rd w M [D] x.fG) (N:rd w J [A] x.fU):rd w (E++(M++J)) [I x.fc,I x.fJ.fW,I x.fJ.fD,I x.fJ.fH,I x.fJ.fQ,I x.fR,L,D,I x.fP,A] x:=⟨_,_,_,_,_,_,rfl,rfl,O,Q,N⟩
theorem I1 {w:World} {x:Carton} {A:List Nat} {D:Value} (E:rd w A [D] x.fK):rd w A [I x.f8,I x.fF,D] x:=⟨_,_,rfl,rfl,E⟩
theorem ol {w:World} {x:Shelf} {A:List Nat} {D:Value} (E:rd w A [D] x.f7):rd w A [D,I x.fW,I x.fD,I x.fH,I x.fQ] x:=⟨_,_,rfl,rfl,E⟩
theorem ut {w:World} {x:Layer} {A:List Nat} {D:Value} (E:rd w A [D] x.fM):rd w A [D,I x.fD,I x.fH,I x.fQ] x:=⟨_,_,rfl,rfl,E⟩
theorem GO {w:World} {x:Plan} {D J:List Nat} {E A:Value} (L:rd w D [E] x.fV) (M:rd w J [A] x.fE):rd w (D++J) [E,A] x:=⟨_,_,_,_,rfl,rfl,L,M⟩
abbrev cR (x:Request) (a b c:Value):List Value:=[I x.fc,I x.fJ.fW,I x.fJ.fD,I x.fJ.fH,I x.fJ.fQ,I x.fR,a,b,I x.fP,c]
instance:Tys Tryz.prog where
 fa:=[(75,2,2),(75,1,1),(75,0,0),(37,2,5),(37,3,6),(37,4,7),(104,1,1),(104,2,2),(104,3,3),(104,6,6),(37,6,9),(37,0,0),(37,1,1),(32,0,0),(32,3,3),(102,2,2),(102,5,5),(37,5,8),(32,1,1),(32,2,2),(100,0,0),(100,1,1),(102,0,0),(102,1,1),(102,3,3),(102,4,4),(102,6,6),(104,0,0),(104,4,4),(104,5,5),(207,0,0),(207,1,1),(66,0,0),(66,2,2),(93,0,0),(93,1,1),(93,2,2),(93,3,3),(145,0,0),(145,1,1),(145,2,2),(145,3,3),(145,4,4),(143,1,1),(143,3,3),(143,0,0),(143,2,2),(141,1,1),(141,2,2),(141,0,0),(68,0,0),(43,0,0),(66,1,1),(43,1,1),(68,1,1),(68,2,2),(68,3,3)]
 hfa:=fC w3 (fC wE (fC wt (fC m8 (fC TP (fC IY (fC pb (fC oG (fC n3 (fC uQ (fC WN (fC qW (fC kR (fC wO (fC wB (fC kA (fC oN (fC tv (fC wU (fC xu (fC pm (fC oS (fC va (fC kE (fC kh (fC u6 (fC uR (fC vf (fC vj (fC uf (fC er (fC up (fC mY (fC cG (fC mN (fC nl (fC m2 (fC mV (fC nH (fC d6 (fC ZM (fC ZQ (fC ZL (fC d7 (fC ZO (fC pK (fC ZB (fC eB (fC ep (fC pp (fC rs (fC P6 (fC fj (fC SJ (fC mO (fC wq (fC rm fN))))))))))))))))))))))))))))))))))))))))))))))))))))))))
 ts:=[(22,1),(64,1),(34,7),(35,7),(33,2),(59,1),(84,1),(92,4),(134,5),(136,4),(138,3),(41,4),(40,3)]
 hts:=fC g9 (fC FX (fC sW (fC vd (fC tP (fC uq (fC dA (fC zO (fC sj (fC oT (fC oa (fC qv (fC iY fN))))))))))))
 t1:=[5,3,22,33,34,35,9,64,40,41]
 ht1:=fC t15 (fC GP (fC zK (fC ua (fC rn (fC vg (fC t19 (fC Yn (fC lq (fC t141 fN)))))))))
 ta:=[(104,7),(37,10),(102,7),(32,4),(207,2),(66,3),(93,4),(43,2),(68,4),(100,2)]
 hta:=fC mA (fC SZ (fC YT (fC zS (fC vH (fC OJ (fC io (fC YH (fC dJ (fC y4 fN)))))))))
 sl:=[22,33,34,35,40,41,59,64,84,92,134,136,138]
 hsl:=fC ⟨_,Tryz.underlying22⟩ (fC ⟨_,Tryz.underlying33⟩ (fC ⟨_,Tryz.underlying34⟩ (fC ⟨_,Tryz.underlying35⟩ (fC ⟨_,Tryz.underlying40⟩ (fC ⟨_,Tryz.underlying41⟩ (fC ⟨_,Tryz.underlying59⟩ (fC ⟨_,Tryz.underlying64⟩ (fC ⟨_,Tryz.underlying84⟩ (fC ⟨_,Tryz.underlying92⟩ (fC ⟨_,Tryz.underlying134⟩ (fC ⟨_,Tryz.underlying136⟩ (fC ⟨_,Tryz.underlying138⟩ fN))))))))))))
 hmx:=hU

abbrev cS (n:Nat) (l:List Value) (u:World) (v:Value):Prop:=Calls Tryz.prog n l.toArray u λe w=>e=.returned v∧Ext [] u w
abbrev cL {α:Type} [Enc α] (n:Nat) (l:List Value) (u:World) (r:α):Prop:=Calls Tryz.prog n l.toArray u λe w=>∃ (v:Value) (G:List Nat),e=.returned v∧Ext [] u w∧ow w G [v] r∧∀ b∈G,u.heap.size≤b
end Go.Proofs.YtdgpkmgnjdpieaaGreatDoor
