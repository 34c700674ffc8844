/- FnPlanned: facts on .. -/
import Derived.Test.YtpcmapfabndggaaGreatDoorPlannedBD
import Derived.Test.YtpcmapfabndggaaGreatDoorS9
import Derived.Test.YtpcmapfabndggaaGreatDoorS12
import Derived.Test.YtpcmapfabndggaaGreatDoorS15
import Derived.Test.YtpcmapfabndggaaGreatDoorS17
import Derived.Test.YtpcmapfabndggaaGreatDoorS20
import Derived.Test.YtpcmapfabndggaaGreatDoorProg
import Derived.Test.YtpcmapfabndggaaGreatDoorS21
import Derived.Test.YtpcmapfabndggaaGreatDoorShelf
set_option maxRecDepth 20000
set_option linter.unusedSimpArgs false
set_option linter.unusedVariables false
set_option linter.unnecessarySimpa false
namespace Go.Proofs.YtpcmapfabndggaaGreatDoor
open Go Go.RowKit
open Enc (rd ow)
open Arg (argv)
open Ret (retv)
open Go.Proofs.Tryz

theorem Qim:Tryz.prog.follows .mixedOrders=true:=by kernel_rfl
theorem Jlk:TS Tryz.prog 22 1:=⟨5,Tryz.underlying22,Tryz.sizeOf5⟩
theorem t15:T1 Tryz.prog 5:=⟨λw=>by simp [isAgg,run_underlying Tryz.underlying5],Tryz.sizeOf5⟩
theorem Jje:BT Tryz.prog 147 [.slice none 0 0,I 0,I 0] #[(0,1),(1,1),(2,1)]:=⟨Tryz.zeroValue147,_,Tryz.underlying147,λw=>by simp [Tryz.sizeOf22,Tryz.sizeOf3]⟩
theorem Q3j:FA Tryz.prog 147 2 2:=Qgv (n:=0) Tryz.underlying147 z z Tryz.sizeOf3
theorem t13:T1 Tryz.prog 3:=⟨λw=>by simp [isAgg,run_underlying Tryz.underlying3],Tryz.sizeOf3⟩
theorem Q3e:FA Tryz.prog 147 1 1:=Qgv (n:=0) Tryz.underlying147 z z Tryz.sizeOf3
theorem Q9h:FA Tryz.prog 147 0 0:=Qgv (n:=0) Tryz.underlying147 z z Tryz.sizeOf22
theorem Jlt:T1 Tryz.prog 22:=⟨λw=>by simp [isAgg,run_underlying Tryz.underlying22],Tryz.sizeOf22⟩
theorem Qg6:TS Tryz.prog 41 1:=⟨3,Tryz.underlying41,Tryz.sizeOf3⟩
theorem Qb4:TE Tryz.prog 41 1 8 [I 0]:=⟨3,Tryz.t3,Tryz.underlying41,Tryz.type3,⟨_,z,z⟩,z,z,z,by decide⟩
theorem Jlq:BT Tryz.prog 25 [I 0,I 0,I 0,I 0] #[(0,1),(1,1),(2,1),(3,1)]:=⟨Tryz.zeroValue25,_,Tryz.underlying25,λw=>by simp [Tryz.sizeOf3]⟩
theorem Jly:BT Tryz.prog 30 [I 0,I 0,I 0,I 0,I 0,I 0,.slice none 0 0,.slice none 0 0,I 0,.slice none 0 0] #[(0,1),(1,4),(5,1),(6,1),(7,1),(8,1),(9,1)]:=⟨Tryz.zeroValue30,_,Tryz.underlying30,λw=>by simp [Tryz.sizeOf25,Tryz.sizeOf26,Tryz.sizeOf27,Tryz.sizeOf28,Tryz.sizeOf3]⟩
theorem Quc:FA Tryz.prog 30 2 5:=Qgv (n:=0) Tryz.underlying30 z z Tryz.sizeOf3
theorem Qoq:FA Tryz.prog 30 3 6:=Qgv (n:=0) Tryz.underlying30 z z Tryz.sizeOf26
theorem Q2s:T1 Tryz.prog 26:=⟨λw=>by simp [isAgg,run_underlying Tryz.underlying26],Tryz.sizeOf26⟩
theorem Jbd:BT Tryz.prog 138 [I 0,I 0] #[(0,1),(1,1)]:=⟨Tryz.zeroValue138,_,Tryz.underlying138,λw=>by simp [Tryz.sizeOf3]⟩
theorem Jhd:TE Tryz.prog 26 2 16 [I 0,I 0]:=⟨138,Tryz.t138,Tryz.underlying26,Tryz.type138,⟨_,z,z⟩,z,z,z,by decide⟩
theorem Qey:FA Tryz.prog 30 4 7:=Qgv (n:=0) Tryz.underlying30 z z Tryz.sizeOf27
theorem Qvy:T1 Tryz.prog 27:=⟨λw=>by simp [isAgg,run_underlying Tryz.underlying27],Tryz.sizeOf27⟩
theorem Q7l:BT Tryz.prog 90 [I 0,I 0,I 0,I 0,I 0,I 0,I 0] #[(0,1),(1,1),(2,1),(3,1),(4,1),(5,1),(6,1)]:=⟨Tryz.zeroValue90,_,Tryz.underlying90,λw=>by simp [Tryz.sizeOf3]⟩
theorem Qyt:TE Tryz.prog 27 7 56 [I 0,I 0,I 0,I 0,I 0,I 0,I 0]:=⟨90,Tryz.t90,Tryz.underlying27,Tryz.type90,⟨_,z,z⟩,z,z,z,by decide⟩
theorem Q3t:BT Tryz.prog 113 [I 0,I 0,I 0,I 0,I 0,I 0,I 0] #[(0,1),(1,1),(2,1),(3,1),(4,1),(5,1),(6,1)]:=⟨Tryz.zeroValue113,_,Tryz.underlying113,λw=>by simp [Tryz.sizeOf3]⟩
theorem Qwt:FA Tryz.prog 113 1 1:=Qgv (n:=0) Tryz.underlying113 z z Tryz.sizeOf3
theorem Qws:FA Tryz.prog 113 2 2:=Qgv (n:=0) Tryz.underlying113 z z Tryz.sizeOf3
theorem Qvt:FA Tryz.prog 113 3 3:=Qgv (n:=0) Tryz.underlying113 z z Tryz.sizeOf3
theorem Qvl:FA Tryz.prog 113 6 6:=Qgv (n:=0) Tryz.underlying113 z z Tryz.sizeOf3
theorem Qhm:FA Tryz.prog 30 6 9:=Qgv (n:=0) Tryz.underlying30 z z Tryz.sizeOf28
theorem Qwn:T1 Tryz.prog 28:=⟨λw=>by simp [isAgg,run_underlying Tryz.underlying28],Tryz.sizeOf28⟩
theorem Qug:TA Tryz.prog 113 7:=⟨Tryz.isAgg113,Tryz.sizeOf113⟩
theorem Jcq:TE Tryz.prog 28 7 56 [I 0,I 0,I 0,I 0,I 0,I 0,I 0]:=⟨113,Tryz.t113,Tryz.underlying28,Tryz.type113,⟨_,z,z⟩,z,z,z,by decide⟩
theorem Qfl:TA Tryz.prog 30 10:=⟨Tryz.isAgg30,Tryz.sizeOf30⟩
theorem Qwi:FA Tryz.prog 25 0 0:=Qgv (n:=0) Tryz.underlying25 z z Tryz.sizeOf3
theorem Qu2:FA Tryz.prog 25 1 1:=Qgv (n:=0) Tryz.underlying25 z z Tryz.sizeOf3
theorem Qu6:FA Tryz.prog 25 2 2:=Qgv (n:=0) Tryz.underlying25 z z Tryz.sizeOf3
theorem Qs0:FA Tryz.prog 25 3 3:=Qgv (n:=0) Tryz.underlying25 z z Tryz.sizeOf3
theorem Qtb:FA Tryz.prog 90 0 0:=Qgv (n:=0) Tryz.underlying90 z z Tryz.sizeOf3
theorem Qvw:FA Tryz.prog 90 1 1:=Qgv (n:=0) Tryz.underlying90 z z Tryz.sizeOf3
theorem Qu4:FA Tryz.prog 90 2 2:=Qgv (n:=0) Tryz.underlying90 z z Tryz.sizeOf3
theorem Qvg:FA Tryz.prog 90 3 3:=Qgv (n:=0) Tryz.underlying90 z z Tryz.sizeOf3
theorem Q20:FA Tryz.prog 90 4 4:=Qgv (n:=0) Tryz.underlying90 z z Tryz.sizeOf3
theorem Qwl:FA Tryz.prog 90 5 5:=Qgv (n:=0) Tryz.underlying90 z z Tryz.sizeOf3
theorem Qwf:FA Tryz.prog 90 6 6:=Qgv (n:=0) Tryz.underlying90 z z Tryz.sizeOf3
theorem Qxy:FA Tryz.prog 113 0 0:=Qgv (n:=0) Tryz.underlying113 z z Tryz.sizeOf3
theorem Qvk:FA Tryz.prog 113 4 4:=Qgv (n:=0) Tryz.underlying113 z z Tryz.sizeOf3
theorem Quj:FA Tryz.prog 113 5 5:=Qgv (n:=0) Tryz.underlying113 z z Tryz.sizeOf3
theorem Q44:FA Tryz.prog 30 0 0:=Qgv (n:=0) Tryz.underlying30 z z Tryz.sizeOf3
theorem Qt3:FA Tryz.prog 30 1 1:=Qgv (n:=3) Tryz.underlying30 z z Tryz.sizeOf25
theorem Qxu:TA Tryz.prog 25 4:=⟨Tryz.isAgg25,Tryz.sizeOf25⟩
theorem Q5a:FA Tryz.prog 30 5 8:=Qgv (n:=0) Tryz.underlying30 z z Tryz.sizeOf3
theorem Jdd:TS Tryz.prog 26 2:=⟨138,Tryz.underlying26,Tryz.sizeOf138⟩
theorem Q0q:FA Tryz.prog 138 0 0:=Qgv (n:=0) Tryz.underlying138 z z Tryz.sizeOf3
theorem Q0m:FA Tryz.prog 138 1 1:=Qgv (n:=0) Tryz.underlying138 z z Tryz.sizeOf3
theorem Q4p:TS Tryz.prog 27 7:=⟨90,Tryz.underlying27,Tryz.sizeOf90⟩
theorem Qub:TA Tryz.prog 90 7:=⟨Tryz.isAgg90,Tryz.sizeOf90⟩
theorem Q0d:TS Tryz.prog 28 7:=⟨113,Tryz.underlying28,Tryz.sizeOf113⟩
theorem Jcy:TA Tryz.prog 138 2:=⟨Tryz.isAgg138,Tryz.sizeOf138⟩
theorem Jit:SEq Tryz.prog 138 Pair:=Jgs Tryz.underlying138 Tryz.stoodInHeld138 Tryz.eqGuardType138 Tryz.underlying3 z
theorem Qyb:TS Tryz.prog 52 1:=⟨41,Tryz.underlying52,Tryz.sizeOf41⟩
theorem Qr1:T1 Tryz.prog 41:=⟨λw=>by simp [isAgg,run_underlying Tryz.underlying41],Tryz.sizeOf41⟩
theorem Qzs:TE Tryz.prog 52 1 24 [.slice none 0 0]:=⟨41,Tryz.t41,Tryz.underlying52,Tryz.type41,⟨_,z,z⟩,z,z,z,by decide⟩
theorem Jha:TE Tryz.prog 32 3 40 [I 0,I 0,.slice none 0 0]:=⟨56,Tryz.t56,Tryz.underlying32,Tryz.type56,⟨_,z,z⟩,z,z,z,by decide⟩
theorem Jlm:BT Tryz.prog 56 [I 0,I 0,.slice none 0 0] #[(0,1),(1,1),(2,1)]:=⟨Tryz.zeroValue56,_,Tryz.underlying56,λw=>by simp [Tryz.sizeOf3,Tryz.sizeOf41]⟩
theorem Qv9:FA Tryz.prog 56 0 0:=Qgv (n:=0) Tryz.underlying56 z z Tryz.sizeOf3
theorem Qtq:FA Tryz.prog 56 2 2:=Qgv (n:=0) Tryz.underlying56 z z Tryz.sizeOf41
theorem Jg6:BT Tryz.prog 57 [I 0,I 0,I 0,I 0] #[(0,1),(1,1),(2,1),(3,1)]:=⟨Tryz.zeroValue57,_,Tryz.underlying57,λw=>by simp [Tryz.sizeOf3]⟩
theorem Q48:TA Tryz.prog 56 3:=⟨Tryz.isAgg56,Tryz.sizeOf56⟩
theorem Q15:TA Tryz.prog 57 4:=⟨Tryz.isAgg57,Tryz.sizeOf57⟩
theorem Quf:FA Tryz.prog 57 0 0:=Qgv (n:=0) Tryz.underlying57 z z Tryz.sizeOf3
theorem Qvv:FA Tryz.prog 57 1 1:=Qgv (n:=0) Tryz.underlying57 z z Tryz.sizeOf3
theorem Qw4:FA Tryz.prog 57 2 2:=Qgv (n:=0) Tryz.underlying57 z z Tryz.sizeOf3
theorem Q2u:FA Tryz.prog 57 3 3:=Qgv (n:=0) Tryz.underlying57 z z Tryz.sizeOf3
theorem Jcs:TS Tryz.prog 54 4:=⟨57,Tryz.underlying54,Tryz.sizeOf57⟩
theorem Q78:TE Tryz.prog 97 5 56 [.slice none 0 0,I 0,I 0,I 0,I 0]:=⟨108,Tryz.t108,Tryz.underlying97,Tryz.type108,⟨_,z,z⟩,z,z,z,by decide⟩
theorem Q5y:TS Tryz.prog 97 5:=⟨108,Tryz.underlying97,Tryz.sizeOf108⟩
theorem Q0l:FA Tryz.prog 108 1 1:=Qgv (n:=0) Tryz.underlying108 z z Tryz.sizeOf3
theorem Qto:FA Tryz.prog 108 4 4:=Qgv (n:=0) Tryz.underlying108 z z Tryz.sizeOf3
theorem Q31:BT Tryz.prog 108 [.slice none 0 0,I 0,I 0,I 0,I 0] #[(0,1),(1,1),(2,1),(3,1),(4,1)]:=⟨Tryz.zeroValue108,_,Tryz.underlying108,λw=>by simp [Tryz.sizeOf3,Tryz.sizeOf41]⟩
theorem Qwz:FA Tryz.prog 108 0 0:=Qgv (n:=0) Tryz.underlying108 z z Tryz.sizeOf41
theorem Qtx:FA Tryz.prog 108 2 2:=Qgv (n:=0) Tryz.underlying108 z z Tryz.sizeOf3
theorem Qwu:FA Tryz.prog 108 3 3:=Qgv (n:=0) Tryz.underlying108 z z Tryz.sizeOf3
theorem Q4y:TA Tryz.prog 108 5:=⟨Tryz.isAgg108,Tryz.sizeOf108⟩
theorem Q75:TE Tryz.prog 99 4 48 [.slice none 0 0,I 0,I 0,I 0]:=⟨106,Tryz.t106,Tryz.underlying99,Tryz.type106,⟨_,z,z⟩,z,z,z,by decide⟩
theorem Q4o:TS Tryz.prog 99 4:=⟨106,Tryz.underlying99,Tryz.sizeOf106⟩
theorem Qwr:FA Tryz.prog 106 1 1:=Qgv (n:=0) Tryz.underlying106 z z Tryz.sizeOf3
theorem Qtm:FA Tryz.prog 106 3 3:=Qgv (n:=0) Tryz.underlying106 z z Tryz.sizeOf3
theorem Q3f:BT Tryz.prog 106 [.slice none 0 0,I 0,I 0,I 0] #[(0,1),(1,1),(2,1),(3,1)]:=⟨Tryz.zeroValue106,_,Tryz.underlying106,λw=>by simp [Tryz.sizeOf3,Tryz.sizeOf41]⟩
theorem Qyo:FA Tryz.prog 106 0 0:=Qgv (n:=0) Tryz.underlying106 z z Tryz.sizeOf41
theorem Qtn:FA Tryz.prog 106 2 2:=Qgv (n:=0) Tryz.underlying106 z z Tryz.sizeOf3
theorem Jbn:TA Tryz.prog 106 4:=⟨Tryz.isAgg106,Tryz.sizeOf106⟩
theorem Qxm:TE Tryz.prog 101 3 40 [.slice none 0 0,I 0,I 0]:=⟨104,Tryz.t104,Tryz.underlying101,Tryz.type104,⟨_,z,z⟩,z,z,z,by decide⟩
theorem Qzo:TS Tryz.prog 101 3:=⟨104,Tryz.underlying101,Tryz.sizeOf104⟩
theorem Q0k:FA Tryz.prog 104 1 1:=Qgv (n:=0) Tryz.underlying104 z z Tryz.sizeOf3
theorem Qz7:FA Tryz.prog 104 2 2:=Qgv (n:=0) Tryz.underlying104 z z Tryz.sizeOf3
theorem Q4g:BT Tryz.prog 104 [.slice none 0 0,I 0,I 0] #[(0,1),(1,1),(2,1)]:=⟨Tryz.zeroValue104,_,Tryz.underlying104,λw=>by simp [Tryz.sizeOf3,Tryz.sizeOf41]⟩
theorem Qya:FA Tryz.prog 104 0 0:=Qgv (n:=0) Tryz.underlying104 z z Tryz.sizeOf41
theorem Jf7:TE Tryz.prog 33 4 32 [I 0,I 0,I 0,I 0]:=⟨62,Tryz.t62,Tryz.underlying33,Tryz.type62,⟨_,z,z⟩,z,z,z,by decide⟩
theorem Jiw:TA Tryz.prog 104 3:=⟨Tryz.isAgg104,Tryz.sizeOf104⟩
theorem Jln:BT Tryz.prog 62 [I 0,I 0,I 0,I 0] #[(0,1),(1,1),(2,1),(3,1)]:=⟨Tryz.zeroValue62,_,Tryz.underlying62,λw=>by simp [Tryz.sizeOf3]⟩
theorem Q57:TS Tryz.prog 33 4:=⟨62,Tryz.underlying33,Tryz.sizeOf62⟩
theorem Q6a:TA Tryz.prog 62 4:=⟨Tryz.isAgg62,Tryz.sizeOf62⟩
theorem Qtl:FA Tryz.prog 62 0 0:=Qgv (n:=0) Tryz.underlying62 z z Tryz.sizeOf3
theorem Jjm:BT Tryz.prog 35 [.slice none 0 0,.slice none 0 0] #[(0,1),(1,1)]:=⟨Tryz.zeroValue35,_,Tryz.underlying35,λw=>by simp [Tryz.sizeOf32,Tryz.sizeOf33]⟩
theorem Q08:TA Tryz.prog 35 2:=⟨Tryz.isAgg35,Tryz.sizeOf35⟩
theorem Jdn:TE Tryz.prog 54 4 32 [I 0,I 0,I 0,I 0]:=⟨57,Tryz.t57,Tryz.underlying54,Tryz.type57,⟨_,z,z⟩,z,z,z,by decide⟩
theorem Qmz:FA Tryz.prog 35 0 0:=Qgv (n:=0) Tryz.underlying35 z z Tryz.sizeOf32
theorem Qy8:T1 Tryz.prog 32:=⟨λw=>by simp [isAgg,run_underlying Tryz.underlying32],Tryz.sizeOf32⟩
theorem Q5x:TS Tryz.prog 32 3:=⟨56,Tryz.underlying32,Tryz.sizeOf56⟩
theorem Qwe:FA Tryz.prog 56 1 1:=Qgv (n:=0) Tryz.underlying56 z z Tryz.sizeOf3
theorem Qta:FA Tryz.prog 35 1 1:=Qgv (n:=0) Tryz.underlying35 z z Tryz.sizeOf33
theorem Q7u:T1 Tryz.prog 33:=⟨λw=>by simp [isAgg,run_underlying Tryz.underlying33],Tryz.sizeOf33⟩
theorem Jjv:BT Tryz.prog 203 [I 0,I 0] #[(0,1),(1,1)]:=⟨Tryz.zeroValue203,_,Tryz.underlying203,λw=>by simp [Tryz.sizeOf3]⟩
theorem Q03:FA Tryz.prog 203 0 0:=Qgv (n:=0) Tryz.underlying203 z z Tryz.sizeOf3
theorem Qx1:FA Tryz.prog 203 1 1:=Qgv (n:=0) Tryz.underlying203 z z Tryz.sizeOf3
theorem Jiv:TA Tryz.prog 203 2:=⟨Tryz.isAgg203,Tryz.sizeOf203⟩
theorem Jfm:FD Tryz.prog 203 0 0 1 false:=⟨_,_,Tryz.underlying203,z,z,(λw=>by simp [isAgg,run_underlying Tryz.underlying3]),Tryz.sizeOf3⟩
theorem Qxs:FA Tryz.prog 62 1 1:=Qgv (n:=0) Tryz.underlying62 z z Tryz.sizeOf3
theorem Qxi:FA Tryz.prog 62 2 2:=Qgv (n:=0) Tryz.underlying62 z z Tryz.sizeOf3
theorem Qxq:FA Tryz.prog 62 3 3:=Qgv (n:=0) Tryz.underlying62 z z Tryz.sizeOf3
theorem Jls:T1 Tryz.prog 52:=⟨λw=>by simp [isAgg,run_underlying Tryz.underlying52],Tryz.sizeOf52⟩
theorem Jl5:TE Tryz.prog 22 1 1 [.int .u8 0]:=⟨5,Tryz.t5,Tryz.underlying22,Tryz.type5,⟨_,z,z⟩,z,z,z,by decide⟩
theorem Qah {w:World} {x:Request} {F0 F1 F2:List Nat} {v0 v1 v2:Value} (h0:rd w F0 [v0] x.fT) (h1:rd w F1 [v1] x.fR) (h2:rd w F2 [v2] x.fU):rd w (F0++(F1++F2)) [I x.qY,I x.fJ.fW,I x.fJ.fD,I x.fJ.fH,I x.fJ.fQ,I x.fG,v0,v1,I x.fP,v2] x:=⟨_,_,_,_,_,_,rfl,rfl,h0,h1,h2⟩
theorem Qtf {w:World} {x:Carton} {F0:List Nat} {v0:Value} (h0:rd w F0 [v0] x.fO):rd w F0 [I x.qJ,I x.fM,v0] x:=⟨_,_,rfl,rfl,h0⟩
theorem Ja8 {w:World} {x:Shelf} {F0:List Nat} {v0:Value} (h0:rd w F0 [v0] x.f9):rd w F0 [v0,I x.fW,I x.fD,I x.fH,I x.fQ] x:=⟨_,_,rfl,rfl,h0⟩
theorem Jgc {w:World} {x:Layer} {F0:List Nat} {v0:Value} (h0:rd w F0 [v0] x.fE):rd w F0 [v0,I x.fD,I x.fH,I x.fQ] x:=⟨_,_,rfl,rfl,h0⟩
theorem Qs2 {w:World} {x:Plan} {F0 F1:List Nat} {v0 v1:Value} (h0:rd w F0 [v0] x.fV) (h1:rd w F1 [v1] x.fF):rd w (F0++F1) [v0,v1] x:=⟨_,_,_,_,rfl,rfl,h0,h1⟩
abbrev cR (x:Request) (a b c:Value):List Value:=[I x.qY,I x.fJ.fW,I x.fJ.fD,I x.fJ.fH,I x.fJ.fQ,I x.fG,a,b,I x.fP,c]
end Go.Proofs.YtpcmapfabndggaaGreatDoor
