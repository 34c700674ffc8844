/- FnTop: facts on type.. -/
import Derived.Test.YtdgpkmgnjdpieaaGreatDoorTopBD
import Derived.Test.YtdgpkmgnjdpieaaGreatDoorS15
import Derived.Test.YtdgpkmgnjdpieaaGreatDoorS12
import Derived.Test.YtdgpkmgnjdpieaaGreatDoorS26
import Derived.Test.YtdgpkmgnjdpieaaGreatDoorProg
import Derived.Test.YtdgpkmgnjdpieaaGreatDoorShelf
set_option maxRecDepth 20000
set_option linter.unusedSimpArgs false
set_option linter.unusedVariables false
set_option linter.unnecessarySimpa false
namespace Go.Proofs.YtdgpkmgnjdpieaaGreatDoor
open Go Go.RowKit
open Enc (rd ow)
open Arg (argv)
open Ret (retv)
open Go.Proofs.Tryz

theorem ip:Tryz.prog.follows .mixedOrders=true:=AQ
theorem ii:TS Tryz.prog 22 1:=⟨5,Tryz.underlying22,Tryz.sizeOf5⟩
theorem t15:T1 Tryz.prog 5:=⟨λw=>by simp [isAgg,run_underlying Tryz.underlying5],Tryz.sizeOf5⟩
theorem yK:BT Tryz.prog 75 [.slice none 0 0,I 0,I 0] #[(0,1),(1,1),(2,1)]:=⟨Tryz.zeroValue75,_,Tryz.underlying75,λw=>by simp [Tryz.sizeOf22,Tryz.sizeOf3]⟩
theorem xh:FA Tryz.prog 75 2 2:=DQ (n:=0) Tryz.underlying75 z z Tryz.sizeOf3
theorem GP:T1 Tryz.prog 3:=⟨λw=>by simp [isAgg,run_underlying Tryz.underlying3],Tryz.sizeOf3⟩
theorem xe:FA Tryz.prog 75 1 1:=DQ (n:=0) Tryz.underlying75 z z Tryz.sizeOf3
theorem wx:FA Tryz.prog 75 0 0:=DQ (n:=0) Tryz.underlying75 z z Tryz.sizeOf22
theorem zV:T1 Tryz.prog 22:=⟨λw=>by simp [isAgg,run_underlying Tryz.underlying22],Tryz.sizeOf22⟩
theorem FY:TS Tryz.prog 64 1:=⟨3,Tryz.underlying64,Tryz.sizeOf3⟩
theorem AV:TE Tryz.prog 64 1 8 [I 0]:=⟨3,Tryz.t3,Tryz.underlying64,Tryz.type3,⟨_,z,z⟩,z,z,z,A1⟩
theorem ub:BT Tryz.prog 32 [I 0,I 0,I 0,I 0] #[(0,1),(1,1),(2,1),(3,1)]:=⟨Tryz.zeroValue32,_,Tryz.underlying32,λw=>by simp [Tryz.sizeOf3]⟩
theorem au:BT Tryz.prog 37 [I 0,I 0,I 0,I 0,I 0,I 0,.slice none 0 0,.slice none 0 0,I 0,.slice none 0 0] #[(0,1),(1,4),(5,1),(6,1),(7,1),(8,1),(9,1)]:=⟨Tryz.zeroValue37,_,Tryz.underlying37,λw=>by simp [Tryz.sizeOf3,Tryz.sizeOf32,Tryz.sizeOf33,Tryz.sizeOf34,Tryz.sizeOf35]⟩
theorem m1:FA Tryz.prog 37 2 5:=DQ (n:=0) Tryz.underlying37 z z Tryz.sizeOf3
theorem UJ:FA Tryz.prog 37 3 6:=DQ (n:=0) Tryz.underlying37 z z Tryz.sizeOf33
theorem vk:T1 Tryz.prog 33:=⟨λw=>by simp [isAgg,run_underlying Tryz.underlying33],Tryz.sizeOf33⟩
theorem gk:BT Tryz.prog 100 [I 0,I 0] #[(0,1),(1,1)]:=⟨Tryz.zeroValue100,_,Tryz.underlying100,λw=>by simp [Tryz.sizeOf3]⟩
theorem bO:TE Tryz.prog 33 2 16 [I 0,I 0]:=⟨100,Tryz.t100,Tryz.underlying33,Tryz.type100,⟨_,z,z⟩,z,z,z,A1⟩
theorem I1:FA Tryz.prog 37 4 7:=DQ (n:=0) Tryz.underlying37 z z Tryz.sizeOf34
theorem rW:T1 Tryz.prog 34:=⟨λw=>by simp [isAgg,run_underlying Tryz.underlying34],Tryz.sizeOf34⟩
theorem Xc:BT Tryz.prog 102 [I 0,I 0,I 0,I 0,I 0,I 0,I 0] #[(0,1),(1,1),(2,1),(3,1),(4,1),(5,1),(6,1)]:=⟨Tryz.zeroValue102,_,Tryz.underlying102,λw=>by simp [Tryz.sizeOf3]⟩
theorem Pz:TE Tryz.prog 34 7 56 [I 0,I 0,I 0,I 0,I 0,I 0,I 0]:=⟨102,Tryz.t102,Tryz.underlying34,Tryz.type102,⟨_,z,z⟩,z,z,z,A1⟩
theorem Zf:BT Tryz.prog 104 [I 0,I 0,I 0,I 0,I 0,I 0,I 0] #[(0,1),(1,1),(2,1),(3,1),(4,1),(5,1),(6,1)]:=⟨Tryz.zeroValue104,_,Tryz.underlying104,λw=>by simp [Tryz.sizeOf3]⟩
theorem nG:FA Tryz.prog 104 1 1:=DQ (n:=0) Tryz.underlying104 z z Tryz.sizeOf3
theorem oS:FA Tryz.prog 104 2 2:=DQ (n:=0) Tryz.underlying104 z z Tryz.sizeOf3
theorem oY:FA Tryz.prog 104 3 3:=DQ (n:=0) Tryz.underlying104 z z Tryz.sizeOf3
theorem uR:FA Tryz.prog 104 6 6:=DQ (n:=0) Tryz.underlying104 z z Tryz.sizeOf3
theorem W7:FA Tryz.prog 37 6 9:=DQ (n:=0) Tryz.underlying37 z z Tryz.sizeOf35
theorem vc:T1 Tryz.prog 35:=⟨λw=>by simp [isAgg,run_underlying Tryz.underlying35],Tryz.sizeOf35⟩
theorem mo:TA Tryz.prog 104 7:=⟨Tryz.isAgg104,Tryz.sizeOf104⟩
theorem Y5:TE Tryz.prog 35 7 56 [I 0,I 0,I 0,I 0,I 0,I 0,I 0]:=⟨104,Tryz.t104,Tryz.underlying35,Tryz.type104,⟨_,z,z⟩,z,z,z,A1⟩
theorem SY:TA Tryz.prog 37 10:=⟨Tryz.isAgg37,Tryz.sizeOf37⟩
theorem q8:FA Tryz.prog 37 0 0:=DQ (n:=0) Tryz.underlying37 z z Tryz.sizeOf3
theorem kC:FA Tryz.prog 37 1 1:=DQ (n:=3) Tryz.underlying37 z z Tryz.sizeOf32
theorem xd:FA Tryz.prog 32 0 0:=DQ (n:=0) Tryz.underlying32 z z Tryz.sizeOf3
theorem xE:FA Tryz.prog 32 3 3:=DQ (n:=0) Tryz.underlying32 z z Tryz.sizeOf3
theorem rp:TS Tryz.prog 34 7:=⟨102,Tryz.underlying34,Tryz.sizeOf102⟩
theorem ku:FA Tryz.prog 102 2 2:=DQ (n:=0) Tryz.underlying102 z z Tryz.sizeOf3
theorem pi:FA Tryz.prog 102 5 5:=DQ (n:=0) Tryz.underlying102 z z Tryz.sizeOf3
theorem tk:FA Tryz.prog 37 5 8:=DQ (n:=0) Tryz.underlying37 z z Tryz.sizeOf3
theorem ua:TS Tryz.prog 35 7:=⟨104,Tryz.underlying35,Tryz.sizeOf104⟩
theorem vf:TS Tryz.prog 33 2:=⟨100,Tryz.underlying33,Tryz.sizeOf100⟩
theorem YW:TA Tryz.prog 102 7:=⟨Tryz.isAgg102,Tryz.sizeOf102⟩
theorem XS:TE Tryz.prog 59 1 16 [.string ⟨#[]⟩]:=⟨9,Tryz.t9,Tryz.underlying59,Tryz.type9,⟨_,z,z⟩,z,z,z,A1⟩
theorem xA:FA Tryz.prog 32 1 1:=DQ (n:=0) Tryz.underlying32 z z Tryz.sizeOf3
theorem xL:FA Tryz.prog 32 2 2:=DQ (n:=0) Tryz.underlying32 z z Tryz.sizeOf3
theorem QD:TE Tryz.prog 84 1 24 [.slice none 0 0]:=⟨64,Tryz.t64,Tryz.underlying84,Tryz.type64,⟨_,z,z⟩,z,z,z,A1⟩
theorem oR:FA Tryz.prog 100 0 0:=DQ (n:=0) Tryz.underlying100 z z Tryz.sizeOf3
theorem nI:FA Tryz.prog 100 1 1:=DQ (n:=0) Tryz.underlying100 z z Tryz.sizeOf3
theorem uI:FA Tryz.prog 102 0 0:=DQ (n:=0) Tryz.underlying102 z z Tryz.sizeOf3
theorem lb:FA Tryz.prog 102 1 1:=DQ (n:=0) Tryz.underlying102 z z Tryz.sizeOf3
theorem kO:FA Tryz.prog 102 3 3:=DQ (n:=0) Tryz.underlying102 z z Tryz.sizeOf3
theorem vv:FA Tryz.prog 102 4 4:=DQ (n:=0) Tryz.underlying102 z z Tryz.sizeOf3
theorem uS:FA Tryz.prog 102 6 6:=DQ (n:=0) Tryz.underlying102 z z Tryz.sizeOf3
theorem vt:FA Tryz.prog 104 0 0:=DQ (n:=0) Tryz.underlying104 z z Tryz.sizeOf3
theorem uM:FA Tryz.prog 104 4 4:=DQ (n:=0) Tryz.underlying104 z z Tryz.sizeOf3
theorem u9:FA Tryz.prog 104 5 5:=DQ (n:=0) Tryz.underlying104 z z Tryz.sizeOf3
theorem Qab:TE Tryz.prog 22 1 1 [.int .u8 0]:=⟨5,Tryz.t5,Tryz.underlying22,Tryz.type5,⟨_,z,z⟩,z,z,z,A1⟩
theorem vj:TS Tryz.prog 59 1:=⟨9,Tryz.underlying59,Tryz.sizeOf9⟩
theorem t19:T1 Tryz.prog 9:=⟨λw=>by simp [isAgg,run_underlying Tryz.underlying9],Tryz.sizeOf9⟩
theorem d8:TS Tryz.prog 84 1:=⟨64,Tryz.underlying84,Tryz.sizeOf64⟩
theorem Yx:T1 Tryz.prog 64:=⟨λw=>by simp [isAgg,run_underlying Tryz.underlying64],Tryz.sizeOf64⟩
theorem zW:TA Tryz.prog 32 4:=⟨Tryz.isAgg32,Tryz.sizeOf32⟩
theorem yk:BT Tryz.prog 207 [I 0,I 0] #[(0,1),(1,1)]:=⟨Tryz.zeroValue207,_,Tryz.underlying207,λw=>by simp [Tryz.sizeOf3]⟩
theorem eK:FA Tryz.prog 207 0 0:=DQ (n:=0) Tryz.underlying207 z z Tryz.sizeOf3
theorem ut:FA Tryz.prog 207 1 1:=DQ (n:=0) Tryz.underlying207 z z Tryz.sizeOf3
theorem vV:TA Tryz.prog 207 2:=⟨Tryz.isAgg207,Tryz.sizeOf207⟩
theorem vm:FD Tryz.prog 207 0 0 1 false:=⟨_,_,Tryz.underlying207,z,z,(λw=>by simp [isAgg,run_underlying Tryz.underlying3]),Tryz.sizeOf3⟩
theorem X1:TE Tryz.prog 40 3 40 [I 0,I 0,.slice none 0 0]:=⟨66,Tryz.t66,Tryz.underlying40,Tryz.type66,⟨_,z,z⟩,z,z,z,A1⟩
theorem bv:BT Tryz.prog 66 [I 0,I 0,.slice none 0 0] #[(0,1),(1,1),(2,1)]:=⟨Tryz.zeroValue66,_,Tryz.underlying66,λw=>by simp [Tryz.sizeOf3,Tryz.sizeOf64]⟩
theorem ni:FA Tryz.prog 66 0 0:=DQ (n:=0) Tryz.underlying66 z z Tryz.sizeOf3
theorem ck:FA Tryz.prog 66 2 2:=DQ (n:=0) Tryz.underlying66 z z Tryz.sizeOf64
theorem qS:BT Tryz.prog 93 [I 0,I 0,I 0,I 0] #[(0,1),(1,1),(2,1),(3,1)]:=⟨Tryz.zeroValue93,_,Tryz.underlying93,λw=>by simp [Tryz.sizeOf3]⟩
theorem Ok:TA Tryz.prog 66 3:=⟨Tryz.isAgg66,Tryz.sizeOf66⟩
theorem fk:TA Tryz.prog 93 4:=⟨Tryz.isAgg93,Tryz.sizeOf93⟩
theorem zR:TS Tryz.prog 92 4:=⟨93,Tryz.underlying92,Tryz.sizeOf93⟩
theorem nv:FA Tryz.prog 93 0 0:=DQ (n:=0) Tryz.underlying93 z z Tryz.sizeOf3
theorem m9:FA Tryz.prog 93 1 1:=DQ (n:=0) Tryz.underlying93 z z Tryz.sizeOf3
theorem nj:FA Tryz.prog 93 2 2:=DQ (n:=0) Tryz.underlying93 z z Tryz.sizeOf3
theorem nf:FA Tryz.prog 93 3 3:=DQ (n:=0) Tryz.underlying93 z z Tryz.sizeOf3
theorem od:FA Tryz.prog 145 0 0:=DQ (n:=0) Tryz.underlying145 z z Tryz.sizeOf64
theorem eL:FA Tryz.prog 145 1 1:=DQ (n:=0) Tryz.underlying145 z z Tryz.sizeOf3
theorem ZZ:FA Tryz.prog 145 2 2:=DQ (n:=0) Tryz.underlying145 z z Tryz.sizeOf3
theorem ZR:FA Tryz.prog 145 3 3:=DQ (n:=0) Tryz.underlying145 z z Tryz.sizeOf3
theorem ZJ:FA Tryz.prog 145 4 4:=DQ (n:=0) Tryz.underlying145 z z Tryz.sizeOf3
theorem bE:BT Tryz.prog 145 [.slice none 0 0,I 0,I 0,I 0,I 0] #[(0,1),(1,1),(2,1),(3,1),(4,1)]:=⟨Tryz.zeroValue145,_,Tryz.underlying145,λw=>by simp [Tryz.sizeOf3,Tryz.sizeOf64]⟩
theorem dl:TA Tryz.prog 145 5:=⟨Tryz.isAgg145,Tryz.sizeOf145⟩
theorem Yb:TE Tryz.prog 134 5 56 [.slice none 0 0,I 0,I 0,I 0,I 0]:=⟨145,Tryz.t145,Tryz.underlying134,Tryz.type145,⟨_,z,z⟩,z,z,z,A1⟩
theorem rx:TS Tryz.prog 134 5:=⟨145,Tryz.underlying134,Tryz.sizeOf145⟩
theorem X8:TE Tryz.prog 136 4 48 [.slice none 0 0,I 0,I 0,I 0]:=⟨143,Tryz.t143,Tryz.underlying136,Tryz.type143,⟨_,z,z⟩,z,z,z,A1⟩
theorem nR:TS Tryz.prog 136 4:=⟨143,Tryz.underlying136,Tryz.sizeOf143⟩
theorem eO:FA Tryz.prog 143 1 1:=DQ (n:=0) Tryz.underlying143 z z Tryz.sizeOf3
theorem ZP:FA Tryz.prog 143 3 3:=DQ (n:=0) Tryz.underlying143 z z Tryz.sizeOf3
theorem aN:BT Tryz.prog 143 [.slice none 0 0,I 0,I 0,I 0] #[(0,1),(1,1),(2,1),(3,1)]:=⟨Tryz.zeroValue143,_,Tryz.underlying143,λw=>by simp [Tryz.sizeOf3,Tryz.sizeOf64]⟩
theorem lO:TA Tryz.prog 143 4:=⟨Tryz.isAgg143,Tryz.sizeOf143⟩
theorem pn:FA Tryz.prog 143 0 0:=DQ (n:=0) Tryz.underlying143 z z Tryz.sizeOf64
theorem ZO:FA Tryz.prog 143 2 2:=DQ (n:=0) Tryz.underlying143 z z Tryz.sizeOf3
theorem X5:TE Tryz.prog 138 3 40 [.slice none 0 0,I 0,I 0]:=⟨141,Tryz.t141,Tryz.underlying138,Tryz.type141,⟨_,z,z⟩,z,z,z,A1⟩
theorem nL:TS Tryz.prog 138 3:=⟨141,Tryz.underlying138,Tryz.sizeOf141⟩
theorem eu:FA Tryz.prog 141 1 1:=DQ (n:=0) Tryz.underlying141 z z Tryz.sizeOf3
theorem eB:FA Tryz.prog 141 2 2:=DQ (n:=0) Tryz.underlying141 z z Tryz.sizeOf3
theorem bP:BT Tryz.prog 141 [.slice none 0 0,I 0,I 0] #[(0,1),(1,1),(2,1)]:=⟨Tryz.zeroValue141,_,Tryz.underlying141,λw=>by simp [Tryz.sizeOf3,Tryz.sizeOf64]⟩
theorem wl:TA Tryz.prog 141 3:=⟨Tryz.isAgg141,Tryz.sizeOf141⟩
theorem pa:FA Tryz.prog 141 0 0:=DQ (n:=0) Tryz.underlying141 z z Tryz.sizeOf64
theorem XJ:TE Tryz.prog 41 4 32 [I 0,I 0,I 0,I 0]:=⟨68,Tryz.t68,Tryz.underlying41,Tryz.type68,⟨_,z,z⟩,z,z,z,A1⟩
theorem Z4:BT Tryz.prog 68 [I 0,I 0,I 0,I 0] #[(0,1),(1,1),(2,1),(3,1)]:=⟨Tryz.zeroValue68,_,Tryz.underlying68,λw=>by simp [Tryz.sizeOf3]⟩
theorem p8:TS Tryz.prog 41 4:=⟨68,Tryz.underlying41,Tryz.sizeOf68⟩
theorem rJ:FA Tryz.prog 68 0 0:=DQ (n:=0) Tryz.underlying68 z z Tryz.sizeOf3
theorem aQ:BT Tryz.prog 43 [.slice none 0 0,.slice none 0 0] #[(0,1),(1,1)]:=⟨Tryz.zeroValue43,_,Tryz.underlying43,λw=>by simp [Tryz.sizeOf40,Tryz.sizeOf41]⟩
theorem YM:TA Tryz.prog 43 2:=⟨Tryz.isAgg43,Tryz.sizeOf43⟩
theorem kG:TE Tryz.prog 92 4 32 [I 0,I 0,I 0,I 0]:=⟨93,Tryz.t93,Tryz.underlying92,Tryz.type93,⟨_,z,z⟩,z,z,z,A1⟩
theorem Ry:FA Tryz.prog 43 0 0:=DQ (n:=0) Tryz.underlying43 z z Tryz.sizeOf40
theorem mP:T1 Tryz.prog 40:=⟨λw=>by simp [isAgg,run_underlying Tryz.underlying40],Tryz.sizeOf40⟩
theorem iO:TS Tryz.prog 40 3:=⟨66,Tryz.underlying40,Tryz.sizeOf66⟩
theorem fI:FA Tryz.prog 66 1 1:=DQ (n:=0) Tryz.underlying66 z z Tryz.sizeOf3
theorem dH:TA Tryz.prog 68 4:=⟨Tryz.isAgg68,Tryz.sizeOf68⟩
theorem SV:FA Tryz.prog 43 1 1:=DQ (n:=0) Tryz.underlying43 z z Tryz.sizeOf41
theorem t141:T1 Tryz.prog 41:=⟨λw=>by simp [isAgg,run_underlying Tryz.underlying41],Tryz.sizeOf41⟩
theorem m8:FA Tryz.prog 68 1 1:=DQ (n:=0) Tryz.underlying68 z z Tryz.sizeOf3
theorem w2:FA Tryz.prog 68 2 2:=DQ (n:=0) Tryz.underlying68 z z Tryz.sizeOf3
theorem r7:FA Tryz.prog 68 3 3:=DQ (n:=0) Tryz.underlying68 z z Tryz.sizeOf3
theorem ze:TA Tryz.prog 100 2:=⟨Tryz.isAgg100,Tryz.sizeOf100⟩
theorem xm:zO Tryz.prog 100 Pair:=ux Tryz.underlying100 Tryz.stoodInHeld100 Tryz.eqGuardType100 Tryz.underlying3 z
theorem yp:T1 Tryz.prog 84:=⟨λw=>by simp [isAgg,run_underlying Tryz.underlying84],Tryz.sizeOf84⟩
theorem AE {w:World} {x:Request} {J A L:List Nat} {E M D:Value} (N:rd w J [E] x.fT) (O:rd w A [M] x.fG) (Q:rd w L [D] x.fU):rd w (J++(A++L)) [I x.fc,I x.fJ.fW,I x.fJ.fD,I x.fJ.fH,I x.fJ.fQ,I x.fR,E,M,I x.fP,D] x:=⟨_,_,_,_,_,_,rfl,rfl,N,O,Q⟩
theorem IZ {w:World} {x:Carton} {D:List Nat} {A:Value} (E:rd w D [A] x.fK):rd w D [I x.f8,I x.fF,A] x:=⟨_,_,rfl,rfl,E⟩
theorem oH {w:World} {x:Shelf} {D:List Nat} {A:Value} (E:rd w D [A] x.f7):rd w D [A,I x.fW,I x.fD,I x.fH,I x.fQ] x:=⟨_,_,rfl,rfl,E⟩
theorem uq {w:World} {x:Layer} {D:List Nat} {A:Value} (E:rd w D [A] x.fM):rd w D [A,I x.fD,I x.fH,I x.fQ] x:=⟨_,_,rfl,rfl,E⟩
theorem GO {w:World} {x:Plan} {E A:List Nat} {D J:Value} (L:rd w E [D] x.fV) (M:rd w A [J] x.fE):rd w (E++A) [D,J] x:=⟨_,_,_,_,rfl,rfl,L,M⟩
abbrev cR (x:Request) (a b c:Value):List Value:=[I x.fc,I x.fJ.fW,I x.fJ.fD,I x.fJ.fH,I x.fJ.fQ,I x.fR,a,b,I x.fP,c]
instance:Tys Tryz.prog where
 fa:=[(75,2,2),(75,1,1),(75,0,0),(37,2,5),(37,3,6),(37,4,7),(104,1,1),(104,2,2),(104,3,3),(104,6,6),(37,6,9),(37,0,0),(37,1,1),(32,0,0),(32,3,3),(102,2,2),(102,5,5),(37,5,8),(32,1,1),(32,2,2),(100,0,0),(100,1,1),(102,0,0),(102,1,1),(102,3,3),(102,4,4),(102,6,6),(104,0,0),(104,4,4),(104,5,5),(207,0,0),(207,1,1),(66,0,0),(66,2,2),(93,0,0),(93,1,1),(93,2,2),(93,3,3),(145,0,0),(145,1,1),(145,2,2),(145,3,3),(145,4,4),(143,1,1),(143,3,3),(143,0,0),(143,2,2),(141,1,1),(141,2,2),(141,0,0),(68,0,0),(43,0,0),(66,1,1),(43,1,1),(68,1,1),(68,2,2),(68,3,3)]
 hfa:=fC xh (fC xe (fC wx (fC m1 (fC UJ (fC I1 (fC nG (fC oS (fC oY (fC uR (fC W7 (fC q8 (fC kC (fC xd (fC xE (fC ku (fC pi (fC tk (fC xA (fC xL (fC oR (fC nI (fC uI (fC lb (fC kO (fC vv (fC uS (fC vt (fC uM (fC u9 (fC eK (fC ut (fC ni (fC ck (fC nv (fC m9 (fC nj (fC nf (fC od (fC eL (fC ZZ (fC ZR (fC ZJ (fC eO (fC ZP (fC pn (fC ZO (fC eu (fC eB (fC pa (fC rJ (fC Ry (fC fI (fC SV (fC m8 (fC w2 (fC r7 fN))))))))))))))))))))))))))))))))))))))))))))))))))))))))
 ts:=[(22,1),(64,1),(34,7),(35,7),(33,2),(59,1),(84,1),(92,4),(134,5),(136,4),(138,3),(41,4),(40,3)]
 hts:=fC ii (fC FY (fC rp (fC ua (fC vf (fC vj (fC d8 (fC zR (fC rx (fC nR (fC nL (fC p8 (fC iO fN))))))))))))
 t1:=[5,3,22,33,34,35,9,64,40,41]
 ht1:=fC t15 (fC GP (fC zV (fC vk (fC rW (fC vc (fC t19 (fC Yx (fC mP (fC t141 fN)))))))))
 ta:=[(104,7),(37,10),(102,7),(32,4),(207,2),(66,3),(93,4),(43,2),(68,4),(100,2)]
 hta:=fC mo (fC SY (fC YW (fC zW (fC vV (fC Ok (fC fk (fC YM (fC dH (fC ze fN)))))))))
 sl:=[22,33,34,35,40,41,59,64,84,92,134,136,138]
 hsl:=fC ⟨_,Tryz.underlying22⟩ (fC ⟨_,Tryz.underlying33⟩ (fC ⟨_,Tryz.underlying34⟩ (fC ⟨_,Tryz.underlying35⟩ (fC ⟨_,Tryz.underlying40⟩ (fC ⟨_,Tryz.underlying41⟩ (fC ⟨_,Tryz.underlying59⟩ (fC ⟨_,Tryz.underlying64⟩ (fC ⟨_,Tryz.underlying84⟩ (fC ⟨_,Tryz.underlying92⟩ (fC ⟨_,Tryz.underlying134⟩ (fC ⟨_,Tryz.underlying136⟩ (fC ⟨_,Tryz.underlying138⟩ fN))))))))))))
 hmx:=ip

abbrev cS (n:Nat) (l:List Value) (u:World) (v:Value):Prop:=Calls Tryz.prog n l.toArray u λe w=>e=.returned v∧Ext [] u w
abbrev cL {α:Type} [Enc α] (n:Nat) (l:List Value) (u:World) (r:α):Prop:=Calls Tryz.prog n l.toArray u λe w=>∃ (v:Value) (G:List Nat),e=.returned v∧Ext [] u w∧ow w G [v] r∧∀ b∈G,u.heap.size≤b
end Go.Proofs.YtdgpkmgnjdpieaaGreatDoor
