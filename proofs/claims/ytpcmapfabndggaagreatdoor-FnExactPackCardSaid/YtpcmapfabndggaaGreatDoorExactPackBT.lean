/- FnExactPack: facts o.. -/
import Derived.Test.YtpcmapfabndggaaGreatDoorExactPackBD
import Derived.Test.YtpcmapfabndggaaGreatDoorS9
import Derived.Test.YtpcmapfabndggaaGreatDoorS12
import Derived.Test.YtpcmapfabndggaaGreatDoorS15
import Derived.Test.YtpcmapfabndggaaGreatDoorS17
import Derived.Test.YtpcmapfabndggaaGreatDoorS20
import Derived.Test.YtpcmapfabndggaaGreatDoorProg
import Derived.Test.YtpcmapfabndggaaGreatDoorS22
import Derived.Test.YtpcmapfabndggaaGreatDoorShelf
set_option maxRecDepth 20000
set_option linter.unusedSimpArgs false
set_option linter.unusedVariables false
set_option linter.unnecessarySimpa false
namespace Go.Proofs.YtpcmapfabndggaaGreatDoor
open Go Go.RowKit
open Enc (rd ow)
open Arg (argv)
open Ret (retv)
open Go.Proofs.Tryz

theorem Qi5:Tryz.prog.follows .mixedOrders=true:=by kernel_rfl
theorem Qy3:TE Tryz.prog 133 1 16 [.string ⟨#[]⟩]:=⟨9,Tryz.t9,Tryz.underlying133,Tryz.type9,⟨_,z,z⟩,z,z,z,by decide⟩
theorem Jik:TE Tryz.prog 22 1 1 [.int .u8 0]:=⟨5,Tryz.t5,Tryz.underlying22,Tryz.type5,⟨_,z,z⟩,z,z,z,by decide⟩
theorem Qcc:TE Tryz.prog 41 1 8 [I 0]:=⟨3,Tryz.t3,Tryz.underlying41,Tryz.type3,⟨_,z,z⟩,z,z,z,by decide⟩
theorem Qvh:TS Tryz.prog 133 1:=⟨9,Tryz.underlying133,Tryz.sizeOf9⟩
theorem t19:T1 Tryz.prog 9:=⟨λw=>by simp [isAgg,run_underlying Tryz.underlying9],Tryz.sizeOf9⟩
theorem Q44:BT Tryz.prog 30 [I 0,I 0,I 0,I 0,I 0,I 0,.slice none 0 0,.slice none 0 0,I 0,.slice none 0 0] #[(0,1),(1,4),(5,1),(6,1),(7,1),(8,1),(9,1)]:=⟨Tryz.zeroValue30,_,Tryz.underlying30,λw=>by simp [Tryz.sizeOf25,Tryz.sizeOf26,Tryz.sizeOf27,Tryz.sizeOf28,Tryz.sizeOf3]⟩
theorem Qf7:TA Tryz.prog 30 10:=⟨Tryz.isAgg30,Tryz.sizeOf30⟩
theorem Qx3:FA Tryz.prog 30 0 0:=Qgr (n:=0) Tryz.underlying30 z z Tryz.sizeOf3
theorem Qdp:TS Tryz.prog 41 1:=⟨3,Tryz.underlying41,Tryz.sizeOf3⟩
theorem t13:T1 Tryz.prog 3:=⟨λw=>by simp [isAgg,run_underlying Tryz.underlying3],Tryz.sizeOf3⟩
theorem Jhz:BT Tryz.prog 25 [I 0,I 0,I 0,I 0] #[(0,1),(1,1),(2,1),(3,1)]:=⟨Tryz.zeroValue25,_,Tryz.underlying25,λw=>by simp [Tryz.sizeOf3]⟩
theorem Qtx:FA Tryz.prog 30 1 1:=Qgr (n:=3) Tryz.underlying30 z z Tryz.sizeOf25
theorem Qtc:FA Tryz.prog 30 2 5:=Qgr (n:=0) Tryz.underlying30 z z Tryz.sizeOf3
theorem Qpx:FA Tryz.prog 30 3 6:=Qgr (n:=0) Tryz.underlying30 z z Tryz.sizeOf26
theorem Q1d:T1 Tryz.prog 26:=⟨λw=>by simp [isAgg,run_underlying Tryz.underlying26],Tryz.sizeOf26⟩
theorem Jbh:BT Tryz.prog 138 [I 0,I 0] #[(0,1),(1,1)]:=⟨Tryz.zeroValue138,_,Tryz.underlying138,λw=>by simp [Tryz.sizeOf3]⟩
theorem Ja2:TE Tryz.prog 26 2 16 [I 0,I 0]:=⟨138,Tryz.t138,Tryz.underlying26,Tryz.type138,⟨_,z,z⟩,z,z,z,by decide⟩
theorem Qhs:FA Tryz.prog 30 4 7:=Qgr (n:=0) Tryz.underlying30 z z Tryz.sizeOf27
theorem Qve:T1 Tryz.prog 27:=⟨λw=>by simp [isAgg,run_underlying Tryz.underlying27],Tryz.sizeOf27⟩
theorem Jcd:BT Tryz.prog 90 [I 0,I 0,I 0,I 0,I 0,I 0,I 0] #[(0,1),(1,1),(2,1),(3,1),(4,1),(5,1),(6,1)]:=⟨Tryz.zeroValue90,_,Tryz.underlying90,λw=>by simp [Tryz.sizeOf3]⟩
theorem Jag:TE Tryz.prog 27 7 56 [I 0,I 0,I 0,I 0,I 0,I 0,I 0]:=⟨90,Tryz.t90,Tryz.underlying27,Tryz.type90,⟨_,z,z⟩,z,z,z,by decide⟩
theorem Q0i:FA Tryz.prog 30 5 8:=Qgr (n:=0) Tryz.underlying30 z z Tryz.sizeOf3
theorem Qhj:FA Tryz.prog 30 6 9:=Qgr (n:=0) Tryz.underlying30 z z Tryz.sizeOf28
theorem Qu7:T1 Tryz.prog 28:=⟨λw=>by simp [isAgg,run_underlying Tryz.underlying28],Tryz.sizeOf28⟩
theorem Jb8:BT Tryz.prog 113 [I 0,I 0,I 0,I 0,I 0,I 0,I 0] #[(0,1),(1,1),(2,1),(3,1),(4,1),(5,1),(6,1)]:=⟨Tryz.zeroValue113,_,Tryz.underlying113,λw=>by simp [Tryz.sizeOf3]⟩
theorem Q6j:TE Tryz.prog 28 7 56 [I 0,I 0,I 0,I 0,I 0,I 0,I 0]:=⟨113,Tryz.t113,Tryz.underlying28,Tryz.type113,⟨_,z,z⟩,z,z,z,by decide⟩
theorem Qwj:FA Tryz.prog 25 0 0:=Qgr (n:=0) Tryz.underlying25 z z Tryz.sizeOf3
theorem Qtm:FA Tryz.prog 25 1 1:=Qgr (n:=0) Tryz.underlying25 z z Tryz.sizeOf3
theorem Qti:FA Tryz.prog 25 2 2:=Qgr (n:=0) Tryz.underlying25 z z Tryz.sizeOf3
theorem Qr3:FA Tryz.prog 25 3 3:=Qgr (n:=0) Tryz.underlying25 z z Tryz.sizeOf3
theorem Qr7:FA Tryz.prog 90 0 0:=Qgr (n:=0) Tryz.underlying90 z z Tryz.sizeOf3
theorem Qt2:FA Tryz.prog 90 1 1:=Qgr (n:=0) Tryz.underlying90 z z Tryz.sizeOf3
theorem Qtf:FA Tryz.prog 90 2 2:=Qgr (n:=0) Tryz.underlying90 z z Tryz.sizeOf3
theorem Qt1:FA Tryz.prog 90 3 3:=Qgr (n:=0) Tryz.underlying90 z z Tryz.sizeOf3
theorem Q0a:FA Tryz.prog 90 4 4:=Qgr (n:=0) Tryz.underlying90 z z Tryz.sizeOf3
theorem Qu0:FA Tryz.prog 90 5 5:=Qgr (n:=0) Tryz.underlying90 z z Tryz.sizeOf3
theorem Qt9:FA Tryz.prog 90 6 6:=Qgr (n:=0) Tryz.underlying90 z z Tryz.sizeOf3
theorem Qvg:FA Tryz.prog 113 0 0:=Qgr (n:=0) Tryz.underlying113 z z Tryz.sizeOf3
theorem Qvl:FA Tryz.prog 113 1 1:=Qgr (n:=0) Tryz.underlying113 z z Tryz.sizeOf3
theorem Qvw:FA Tryz.prog 113 2 2:=Qgr (n:=0) Tryz.underlying113 z z Tryz.sizeOf3
theorem Qvu:FA Tryz.prog 113 3 3:=Qgr (n:=0) Tryz.underlying113 z z Tryz.sizeOf3
theorem Qtl:FA Tryz.prog 113 4 4:=Qgr (n:=0) Tryz.underlying113 z z Tryz.sizeOf3
theorem Qtg:FA Tryz.prog 113 5 5:=Qgr (n:=0) Tryz.underlying113 z z Tryz.sizeOf3
theorem Qvr:FA Tryz.prog 113 6 6:=Qgr (n:=0) Tryz.underlying113 z z Tryz.sizeOf3
theorem Qv2:TA Tryz.prog 25 4:=⟨Tryz.isAgg25,Tryz.sizeOf25⟩
theorem Ja9:TS Tryz.prog 26 2:=⟨138,Tryz.underlying26,Tryz.sizeOf138⟩
theorem Qxo:FA Tryz.prog 138 0 0:=Qgr (n:=0) Tryz.underlying138 z z Tryz.sizeOf3
theorem Qxm:FA Tryz.prog 138 1 1:=Qgr (n:=0) Tryz.underlying138 z z Tryz.sizeOf3
theorem Q5i:TS Tryz.prog 27 7:=⟨90,Tryz.underlying27,Tryz.sizeOf90⟩
theorem Qtd:TA Tryz.prog 90 7:=⟨Tryz.isAgg90,Tryz.sizeOf90⟩
theorem Qz8:TS Tryz.prog 28 7:=⟨113,Tryz.underlying28,Tryz.sizeOf113⟩
theorem Qtt:TA Tryz.prog 113 7:=⟨Tryz.isAgg113,Tryz.sizeOf113⟩
theorem Qxa:TE Tryz.prog 52 1 24 [.slice none 0 0]:=⟨41,Tryz.t41,Tryz.underlying52,Tryz.type41,⟨_,z,z⟩,z,z,z,by decide⟩
theorem Qv8:TS Tryz.prog 52 1:=⟨41,Tryz.underlying52,Tryz.sizeOf41⟩
theorem Qrr:T1 Tryz.prog 41:=⟨λw=>by simp [isAgg,run_underlying Tryz.underlying41],Tryz.sizeOf41⟩
theorem Jhw:BT Tryz.prog 203 [I 0,I 0] #[(0,1),(1,1)]:=⟨Tryz.zeroValue203,_,Tryz.underlying203,λw=>by simp [Tryz.sizeOf3]⟩
theorem Qxx:FA Tryz.prog 203 0 0:=Qgr (n:=0) Tryz.underlying203 z z Tryz.sizeOf3
theorem Qv1:FA Tryz.prog 203 1 1:=Qgr (n:=0) Tryz.underlying203 z z Tryz.sizeOf3
theorem Je6:TA Tryz.prog 203 2:=⟨Tryz.isAgg203,Tryz.sizeOf203⟩
theorem Jda:FD Tryz.prog 203 0 0 1 false:=⟨_,_,Tryz.underlying203,z,z,(λw=>by simp [isAgg,run_underlying Tryz.underlying3]),Tryz.sizeOf3⟩
theorem Jdi:TE Tryz.prog 32 3 40 [I 0,I 0,.slice none 0 0]:=⟨56,Tryz.t56,Tryz.underlying32,Tryz.type56,⟨_,z,z⟩,z,z,z,by decide⟩
theorem Jig:BT Tryz.prog 56 [I 0,I 0,.slice none 0 0] #[(0,1),(1,1),(2,1)]:=⟨Tryz.zeroValue56,_,Tryz.underlying56,λw=>by simp [Tryz.sizeOf3,Tryz.sizeOf41]⟩
theorem Qwa:FA Tryz.prog 56 0 0:=Qgr (n:=0) Tryz.underlying56 z z Tryz.sizeOf3
theorem Qug:FA Tryz.prog 56 2 2:=Qgr (n:=0) Tryz.underlying56 z z Tryz.sizeOf41
theorem Jdd:BT Tryz.prog 57 [I 0,I 0,I 0,I 0] #[(0,1),(1,1),(2,1),(3,1)]:=⟨Tryz.zeroValue57,_,Tryz.underlying57,λw=>by simp [Tryz.sizeOf3]⟩
theorem Q9d:TA Tryz.prog 56 3:=⟨Tryz.isAgg56,Tryz.sizeOf56⟩
theorem Q3h:TA Tryz.prog 57 4:=⟨Tryz.isAgg57,Tryz.sizeOf57⟩
theorem Jam:TS Tryz.prog 54 4:=⟨57,Tryz.underlying54,Tryz.sizeOf57⟩
theorem Qv7:FA Tryz.prog 57 0 0:=Qgr (n:=0) Tryz.underlying57 z z Tryz.sizeOf3
theorem Q0d:FA Tryz.prog 57 1 1:=Qgr (n:=0) Tryz.underlying57 z z Tryz.sizeOf3
theorem Q4o:FA Tryz.prog 57 2 2:=Qgr (n:=0) Tryz.underlying57 z z Tryz.sizeOf3
theorem Qz0:FA Tryz.prog 57 3 3:=Qgr (n:=0) Tryz.underlying57 z z Tryz.sizeOf3
theorem Quk:FA Tryz.prog 108 0 0:=Qgr (n:=0) Tryz.underlying108 z z Tryz.sizeOf41
theorem Qxl:FA Tryz.prog 108 1 1:=Qgr (n:=0) Tryz.underlying108 z z Tryz.sizeOf3
theorem Qr6:FA Tryz.prog 108 2 2:=Qgr (n:=0) Tryz.underlying108 z z Tryz.sizeOf3
theorem Qui:FA Tryz.prog 108 3 3:=Qgr (n:=0) Tryz.underlying108 z z Tryz.sizeOf3
theorem Qr9:FA Tryz.prog 108 4 4:=Qgr (n:=0) Tryz.underlying108 z z Tryz.sizeOf3
theorem Q1y:BT Tryz.prog 108 [.slice none 0 0,I 0,I 0,I 0,I 0] #[(0,1),(1,1),(2,1),(3,1),(4,1)]:=⟨Tryz.zeroValue108,_,Tryz.underlying108,λw=>by simp [Tryz.sizeOf3,Tryz.sizeOf41]⟩
theorem Q2k:TA Tryz.prog 108 5:=⟨Tryz.isAgg108,Tryz.sizeOf108⟩
theorem Q47:TE Tryz.prog 97 5 56 [.slice none 0 0,I 0,I 0,I 0,I 0]:=⟨108,Tryz.t108,Tryz.underlying97,Tryz.type108,⟨_,z,z⟩,z,z,z,by decide⟩
theorem Q21:TS Tryz.prog 97 5:=⟨108,Tryz.underlying97,Tryz.sizeOf108⟩
theorem Q4z:TE Tryz.prog 99 4 48 [.slice none 0 0,I 0,I 0,I 0]:=⟨106,Tryz.t106,Tryz.underlying99,Tryz.type106,⟨_,z,z⟩,z,z,z,by decide⟩
theorem Q12:TS Tryz.prog 99 4:=⟨106,Tryz.underlying99,Tryz.sizeOf106⟩
theorem Qus:FA Tryz.prog 106 1 1:=Qgr (n:=0) Tryz.underlying106 z z Tryz.sizeOf3
theorem Qrv:FA Tryz.prog 106 3 3:=Qgr (n:=0) Tryz.underlying106 z z Tryz.sizeOf3
theorem Q1p:BT Tryz.prog 106 [.slice none 0 0,I 0,I 0,I 0] #[(0,1),(1,1),(2,1),(3,1)]:=⟨Tryz.zeroValue106,_,Tryz.underlying106,λw=>by simp [Tryz.sizeOf3,Tryz.sizeOf41]⟩
theorem Q8e:TA Tryz.prog 106 4:=⟨Tryz.isAgg106,Tryz.sizeOf106⟩
theorem Qvo:FA Tryz.prog 106 0 0:=Qgr (n:=0) Tryz.underlying106 z z Tryz.sizeOf41
theorem Qr2:FA Tryz.prog 106 2 2:=Qgr (n:=0) Tryz.underlying106 z z Tryz.sizeOf3
theorem Qu9:TE Tryz.prog 101 3 40 [.slice none 0 0,I 0,I 0]:=⟨104,Tryz.t104,Tryz.underlying101,Tryz.type104,⟨_,z,z⟩,z,z,z,by decide⟩
theorem Qwu:TS Tryz.prog 101 3:=⟨104,Tryz.underlying101,Tryz.sizeOf104⟩
theorem Qyb:FA Tryz.prog 104 1 1:=Qgr (n:=0) Tryz.underlying104 z z Tryz.sizeOf3
theorem Qyn:FA Tryz.prog 104 2 2:=Qgr (n:=0) Tryz.underlying104 z z Tryz.sizeOf3
theorem Q0u:BT Tryz.prog 104 [.slice none 0 0,I 0,I 0] #[(0,1),(1,1),(2,1)]:=⟨Tryz.zeroValue104,_,Tryz.underlying104,λw=>by simp [Tryz.sizeOf3,Tryz.sizeOf41]⟩
theorem Je3:TA Tryz.prog 104 3:=⟨Tryz.isAgg104,Tryz.sizeOf104⟩
theorem Qv0:FA Tryz.prog 104 0 0:=Qgr (n:=0) Tryz.underlying104 z z Tryz.sizeOf41
theorem Jce:TE Tryz.prog 33 4 32 [I 0,I 0,I 0,I 0]:=⟨62,Tryz.t62,Tryz.underlying33,Tryz.type62,⟨_,z,z⟩,z,z,z,by decide⟩
theorem Jid:BT Tryz.prog 62 [I 0,I 0,I 0,I 0] #[(0,1),(1,1),(2,1),(3,1)]:=⟨Tryz.zeroValue62,_,Tryz.underlying62,λw=>by simp [Tryz.sizeOf3]⟩
theorem Q6i:TS Tryz.prog 33 4:=⟨62,Tryz.underlying33,Tryz.sizeOf62⟩
theorem Qs9:FA Tryz.prog 62 0 0:=Qgr (n:=0) Tryz.underlying62 z z Tryz.sizeOf3
theorem Jf0:BT Tryz.prog 35 [.slice none 0 0,.slice none 0 0] #[(0,1),(1,1)]:=⟨Tryz.zeroValue35,_,Tryz.underlying35,λw=>by simp [Tryz.sizeOf32,Tryz.sizeOf33]⟩
theorem Q80:TA Tryz.prog 35 2:=⟨Tryz.isAgg35,Tryz.sizeOf35⟩
theorem Jdc:TE Tryz.prog 54 4 32 [I 0,I 0,I 0,I 0]:=⟨57,Tryz.t57,Tryz.underlying54,Tryz.type57,⟨_,z,z⟩,z,z,z,by decide⟩
theorem Qsd:FA Tryz.prog 35 0 0:=Qgr (n:=0) Tryz.underlying35 z z Tryz.sizeOf32
theorem Q37:T1 Tryz.prog 32:=⟨λw=>by simp [isAgg,run_underlying Tryz.underlying32],Tryz.sizeOf32⟩
theorem Jbf:TS Tryz.prog 32 3:=⟨56,Tryz.underlying32,Tryz.sizeOf56⟩
theorem Qz3:FA Tryz.prog 56 1 1:=Qgr (n:=0) Tryz.underlying56 z z Tryz.sizeOf3
theorem Q89:TA Tryz.prog 62 4:=⟨Tryz.isAgg62,Tryz.sizeOf62⟩
theorem Quh:FA Tryz.prog 35 1 1:=Qgr (n:=0) Tryz.underlying35 z z Tryz.sizeOf33
theorem Jaz:T1 Tryz.prog 33:=⟨λw=>by simp [isAgg,run_underlying Tryz.underlying33],Tryz.sizeOf33⟩
theorem Q4u:FA Tryz.prog 62 1 1:=Qgr (n:=0) Tryz.underlying62 z z Tryz.sizeOf3
theorem Q4r:FA Tryz.prog 62 2 2:=Qgr (n:=0) Tryz.underlying62 z z Tryz.sizeOf3
theorem Q4e:FA Tryz.prog 62 3 3:=Qgr (n:=0) Tryz.underlying62 z z Tryz.sizeOf3
theorem Q92:TA Tryz.prog 138 2:=⟨Tryz.isAgg138,Tryz.sizeOf138⟩
theorem Jff:SEq Tryz.prog 138 Pair:=Jb0 Tryz.underlying138 Tryz.stoodInHeld138 Tryz.eqGuardType138 Tryz.underlying3 z
theorem Qah {w:World} {x:Request} {F0 F1 F2:List Nat} {v0 v1 v2:Value} (h0:rd w F0 [v0] x.fR) (h1:rd w F1 [v1] x.fG) (h2:rd w F2 [v2] x.fV):rd w (F0++(F1++F2)) [I x.ff,I x.fJ.fW,I x.fJ.fD,I x.fJ.fH,I x.fJ.fQ,I x.fU,v0,v1,I x.fT,v2] x:=⟨_,_,_,_,_,_,rfl,rfl,h0,h1,h2⟩
theorem Qt4 {w:World} {x:Carton} {F0:List Nat} {v0:Value} (h0:rd w F0 [v0] x.f9):rd w F0 [I x.fe,I x.fa,v0] x:=⟨_,_,rfl,rfl,h0⟩
theorem Q76 {w:World} {x:Shelf} {F0:List Nat} {v0:Value} (h0:rd w F0 [v0] x.f0):rd w F0 [v0,I x.fW,I x.fD,I x.fH,I x.fQ] x:=⟨_,_,rfl,rfl,h0⟩
theorem Jbg {w:World} {x:Layer} {F0:List Nat} {v0:Value} (h0:rd w F0 [v0] x.fP):rd w F0 [v0,I x.fD,I x.fH,I x.fQ] x:=⟨_,_,rfl,rfl,h0⟩
theorem Q4t {w:World} {x:Plan} {F0 F1:List Nat} {v0 v1:Value} (h0:rd w F0 [v0] x.fE) (h1:rd w F1 [v1] x.fc):rd w (F0++F1) [v0,v1] x:=⟨_,_,_,_,rfl,rfl,h0,h1⟩
abbrev cR (x:Request) (a b c:Value):List Value:=[I x.ff,I x.fJ.fW,I x.fJ.fD,I x.fJ.fH,I x.fJ.fQ,I x.fU,a,b,I x.fT,c]
end Go.Proofs.YtpcmapfabndggaaGreatDoor
