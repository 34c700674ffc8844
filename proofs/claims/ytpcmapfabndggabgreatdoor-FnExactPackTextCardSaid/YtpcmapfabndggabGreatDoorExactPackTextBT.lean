/- FnExactPackText: fac.. -/
import Derived.Test.YtpcmapfabndggabGreatDoorExactPackTextBD
import Derived.Test.YtpcmapfabndggabGreatDoorS9
import Derived.Test.YtpcmapfabndggabGreatDoorS12
import Derived.Test.YtpcmapfabndggabGreatDoorS15
import Derived.Test.YtpcmapfabndggabGreatDoorS17
import Derived.Test.YtpcmapfabndggabGreatDoorS20
import Derived.Test.YtpcmapfabndggabGreatDoorProg
import Derived.Test.YtpcmapfabndggabGreatDoorS22
import Derived.Test.YtpcmapfabndggabGreatDoorShelf
set_option maxRecDepth 20000
set_option linter.unusedSimpArgs false
set_option linter.unusedVariables false
set_option linter.unnecessarySimpa false
namespace Go.Proofs.YtpcmapfabndggabGreatDoor
open Go Go.RowKit
open Enc (rd ow)
open Arg (argv)
open Ret (retv)
open Go.Proofs.Tryz

theorem Qjh:Tryz.prog.follows .mixedOrders=true:=by kernel_rfl
theorem Q6f:TE Tryz.prog 58 1 16 [.string ⟨#[]⟩]:=⟨9,Tryz.t9,Tryz.underlying58,Tryz.type9,⟨_,z,z⟩,z,z,z,by decide⟩
theorem Ji8:TE Tryz.prog 24 1 1 [.int .u8 0]:=⟨5,Tryz.t5,Tryz.underlying24,Tryz.type5,⟨_,z,z⟩,z,z,z,by decide⟩
theorem Qcc:TE Tryz.prog 37 1 8 [I 0]:=⟨3,Tryz.t3,Tryz.underlying37,Tryz.type3,⟨_,z,z⟩,z,z,z,by decide⟩
theorem Q3z:TS Tryz.prog 58 1:=⟨9,Tryz.underlying58,Tryz.sizeOf9⟩
theorem t19:T1 Tryz.prog 9:=⟨λw=>by simp [isAgg,run_underlying Tryz.underlying9],Tryz.sizeOf9⟩
theorem Q5d:BT Tryz.prog 53 [I 0,I 0,I 0,I 0,I 0,I 0,.slice none 0 0,.slice none 0 0,I 0,.slice none 0 0] #[(0,1),(1,4),(5,1),(6,1),(7,1),(8,1),(9,1)]:=⟨Tryz.zeroValue53,_,Tryz.underlying53,λw=>by simp [Tryz.sizeOf3,Tryz.sizeOf48,Tryz.sizeOf49,Tryz.sizeOf50,Tryz.sizeOf51]⟩
theorem Qf7:TA Tryz.prog 53 10:=⟨Tryz.isAgg53,Tryz.sizeOf53⟩
theorem Qyl:FA Tryz.prog 53 0 0:=Qgp (n:=0) Tryz.underlying53 z z Tryz.sizeOf3
theorem Qdq:TS Tryz.prog 37 1:=⟨3,Tryz.underlying37,Tryz.sizeOf3⟩
theorem t13:T1 Tryz.prog 3:=⟨λw=>by simp [isAgg,run_underlying Tryz.underlying3],Tryz.sizeOf3⟩
theorem Jim:BT Tryz.prog 48 [I 0,I 0,I 0,I 0] #[(0,1),(1,1),(2,1),(3,1)]:=⟨Tryz.zeroValue48,_,Tryz.underlying48,λw=>by simp [Tryz.sizeOf3]⟩
theorem Qty:FA Tryz.prog 53 1 1:=Qgp (n:=3) Tryz.underlying53 z z Tryz.sizeOf48
theorem Qtd:FA Tryz.prog 53 2 5:=Qgp (n:=0) Tryz.underlying53 z z Tryz.sizeOf3
theorem Qp2:FA Tryz.prog 53 3 6:=Qgp (n:=0) Tryz.underlying53 z z Tryz.sizeOf49
theorem Q04:T1 Tryz.prog 49:=⟨λw=>by simp [isAgg,run_underlying Tryz.underlying49],Tryz.sizeOf49⟩
theorem Jhg:BT Tryz.prog 87 [I 0,I 0] #[(0,1),(1,1)]:=⟨Tryz.zeroValue87,_,Tryz.underlying87,λw=>by simp [Tryz.sizeOf3]⟩
theorem Jaq:TE Tryz.prog 49 2 16 [I 0,I 0]:=⟨87,Tryz.t87,Tryz.underlying49,Tryz.type87,⟨_,z,z⟩,z,z,z,by decide⟩
theorem Qht:FA Tryz.prog 53 4 7:=Qgp (n:=0) Tryz.underlying53 z z Tryz.sizeOf50
theorem Qvp:T1 Tryz.prog 50:=⟨λw=>by simp [isAgg,run_underlying Tryz.underlying50],Tryz.sizeOf50⟩
theorem Jcq:BT Tryz.prog 89 [I 0,I 0,I 0,I 0,I 0,I 0,I 0] #[(0,1),(1,1),(2,1),(3,1),(4,1),(5,1),(6,1)]:=⟨Tryz.zeroValue89,_,Tryz.underlying89,λw=>by simp [Tryz.sizeOf3]⟩
theorem Ja4:TE Tryz.prog 50 7 56 [I 0,I 0,I 0,I 0,I 0,I 0,I 0]:=⟨89,Tryz.t89,Tryz.underlying50,Tryz.type89,⟨_,z,z⟩,z,z,z,by decide⟩
theorem Qz4:FA Tryz.prog 53 5 8:=Qgp (n:=0) Tryz.underlying53 z z Tryz.sizeOf3
theorem Qhh:FA Tryz.prog 53 6 9:=Qgp (n:=0) Tryz.underlying53 z z Tryz.sizeOf51
theorem Qvj:T1 Tryz.prog 51:=⟨λw=>by simp [isAgg,run_underlying Tryz.underlying51],Tryz.sizeOf51⟩
theorem Jhq:BT Tryz.prog 91 [I 0,I 0,I 0,I 0,I 0,I 0,I 0] #[(0,1),(1,1),(2,1),(3,1),(4,1),(5,1),(6,1)]:=⟨Tryz.zeroValue91,_,Tryz.underlying91,λw=>by simp [Tryz.sizeOf3]⟩
theorem Q6p:TE Tryz.prog 51 7 56 [I 0,I 0,I 0,I 0,I 0,I 0,I 0]:=⟨91,Tryz.t91,Tryz.underlying51,Tryz.type91,⟨_,z,z⟩,z,z,z,by decide⟩
theorem Qwg:FA Tryz.prog 48 0 0:=Qgp (n:=0) Tryz.underlying48 z z Tryz.sizeOf3
theorem Qt8:FA Tryz.prog 48 1 1:=Qgp (n:=0) Tryz.underlying48 z z Tryz.sizeOf3
theorem Qt0:FA Tryz.prog 48 2 2:=Qgp (n:=0) Tryz.underlying48 z z Tryz.sizeOf3
theorem Qsc:FA Tryz.prog 48 3 3:=Qgp (n:=0) Tryz.underlying48 z z Tryz.sizeOf3
theorem Qr4:FA Tryz.prog 89 0 0:=Qgp (n:=0) Tryz.underlying89 z z Tryz.sizeOf3
theorem Qtt:FA Tryz.prog 89 1 1:=Qgp (n:=0) Tryz.underlying89 z z Tryz.sizeOf3
theorem Qtn:FA Tryz.prog 89 2 2:=Qgp (n:=0) Tryz.underlying89 z z Tryz.sizeOf3
theorem Qtu:FA Tryz.prog 89 3 3:=Qgp (n:=0) Tryz.underlying89 z z Tryz.sizeOf3
theorem Q0a:FA Tryz.prog 89 4 4:=Qgp (n:=0) Tryz.underlying89 z z Tryz.sizeOf3
theorem Qu7:FA Tryz.prog 89 5 5:=Qgp (n:=0) Tryz.underlying89 z z Tryz.sizeOf3
theorem Qum:FA Tryz.prog 89 6 6:=Qgp (n:=0) Tryz.underlying89 z z Tryz.sizeOf3
theorem Qz6:FA Tryz.prog 91 0 0:=Qgp (n:=0) Tryz.underlying91 z z Tryz.sizeOf3
theorem Qz9:FA Tryz.prog 91 1 1:=Qgp (n:=0) Tryz.underlying91 z z Tryz.sizeOf3
theorem Q0e:FA Tryz.prog 91 2 2:=Qgp (n:=0) Tryz.underlying91 z z Tryz.sizeOf3
theorem Q0c:FA Tryz.prog 91 3 3:=Qgp (n:=0) Tryz.underlying91 z z Tryz.sizeOf3
theorem Qwd:FA Tryz.prog 91 4 4:=Qgp (n:=0) Tryz.underlying91 z z Tryz.sizeOf3
theorem Qwl:FA Tryz.prog 91 5 5:=Qgp (n:=0) Tryz.underlying91 z z Tryz.sizeOf3
theorem Q0o:FA Tryz.prog 91 6 6:=Qgp (n:=0) Tryz.underlying91 z z Tryz.sizeOf3
theorem Qvw:TA Tryz.prog 48 4:=⟨Tryz.isAgg48,Tryz.sizeOf48⟩
theorem Jar:TS Tryz.prog 49 2:=⟨87,Tryz.underlying49,Tryz.sizeOf87⟩
theorem Q2z:FA Tryz.prog 87 0 0:=Qgp (n:=0) Tryz.underlying87 z z Tryz.sizeOf3
theorem Q2v:FA Tryz.prog 87 1 1:=Qgp (n:=0) Tryz.underlying87 z z Tryz.sizeOf3
theorem Q4r:TS Tryz.prog 50 7:=⟨89,Tryz.underlying50,Tryz.sizeOf89⟩
theorem Qtk:TA Tryz.prog 89 7:=⟨Tryz.isAgg89,Tryz.sizeOf89⟩
theorem Q0f:TS Tryz.prog 51 7:=⟨91,Tryz.underlying51,Tryz.sizeOf91⟩
theorem Q22:TA Tryz.prog 91 7:=⟨Tryz.isAgg91,Tryz.sizeOf91⟩
theorem Qxg:TE Tryz.prog 93 1 24 [.slice none 0 0]:=⟨37,Tryz.t37,Tryz.underlying93,Tryz.type37,⟨_,z,z⟩,z,z,z,by decide⟩
theorem Qwf:TS Tryz.prog 93 1:=⟨37,Tryz.underlying93,Tryz.sizeOf37⟩
theorem Qrw:T1 Tryz.prog 37:=⟨λw=>by simp [isAgg,run_underlying Tryz.underlying37],Tryz.sizeOf37⟩
theorem Jgs:BT Tryz.prog 180 [I 0,I 0] #[(0,1),(1,1)]:=⟨Tryz.zeroValue180,_,Tryz.underlying180,λw=>by simp [Tryz.sizeOf3]⟩
theorem Qx1:FA Tryz.prog 180 0 0:=Qgp (n:=0) Tryz.underlying180 z z Tryz.sizeOf3
theorem Qv8:FA Tryz.prog 180 1 1:=Qgp (n:=0) Tryz.underlying180 z z Tryz.sizeOf3
theorem Jer:TA Tryz.prog 180 2:=⟨Tryz.isAgg180,Tryz.sizeOf180⟩
theorem Jce:FD Tryz.prog 180 0 0 1 false:=⟨_,_,Tryz.underlying180,z,z,(λw=>by simp [isAgg,run_underlying Tryz.underlying3]),Tryz.sizeOf3⟩
theorem Jdo:TE Tryz.prog 26 3 40 [I 0,I 0,.slice none 0 0]:=⟨39,Tryz.t39,Tryz.underlying26,Tryz.type39,⟨_,z,z⟩,z,z,z,by decide⟩
theorem Jiu:BT Tryz.prog 39 [I 0,I 0,.slice none 0 0] #[(0,1),(1,1),(2,1)]:=⟨Tryz.zeroValue39,_,Tryz.underlying39,λw=>by simp [Tryz.sizeOf3,Tryz.sizeOf37]⟩
theorem Qwo:FA Tryz.prog 39 0 0:=Qgp (n:=0) Tryz.underlying39 z z Tryz.sizeOf3
theorem Quo:FA Tryz.prog 39 2 2:=Qgp (n:=0) Tryz.underlying39 z z Tryz.sizeOf37
theorem Jdm:BT Tryz.prog 96 [I 0,I 0,I 0,I 0] #[(0,1),(1,1),(2,1),(3,1)]:=⟨Tryz.zeroValue96,_,Tryz.underlying96,λw=>by simp [Tryz.sizeOf3]⟩
theorem Q9w:TA Tryz.prog 39 3:=⟨Tryz.isAgg39,Tryz.sizeOf39⟩
theorem Q3m:TA Tryz.prog 96 4:=⟨Tryz.isAgg96,Tryz.sizeOf96⟩
theorem Jbd:TS Tryz.prog 95 4:=⟨96,Tryz.underlying95,Tryz.sizeOf96⟩
theorem Qwq:FA Tryz.prog 96 0 0:=Qgp (n:=0) Tryz.underlying96 z z Tryz.sizeOf3
theorem Q0q:FA Tryz.prog 96 1 1:=Qgp (n:=0) Tryz.underlying96 z z Tryz.sizeOf3
theorem Q4n:FA Tryz.prog 96 2 2:=Qgp (n:=0) Tryz.underlying96 z z Tryz.sizeOf3
theorem Q0k:FA Tryz.prog 96 3 3:=Qgp (n:=0) Tryz.underlying96 z z Tryz.sizeOf3
theorem Qut:FA Tryz.prog 135 0 0:=Qgp (n:=0) Tryz.underlying135 z z Tryz.sizeOf37
theorem Qyy:FA Tryz.prog 135 1 1:=Qgp (n:=0) Tryz.underlying135 z z Tryz.sizeOf3
theorem Qsa:FA Tryz.prog 135 2 2:=Qgp (n:=0) Tryz.underlying135 z z Tryz.sizeOf3
theorem Quy:FA Tryz.prog 135 3 3:=Qgp (n:=0) Tryz.underlying135 z z Tryz.sizeOf3
theorem Qr5:FA Tryz.prog 135 4 4:=Qgp (n:=0) Tryz.underlying135 z z Tryz.sizeOf3
theorem Q03:BT Tryz.prog 135 [.slice none 0 0,I 0,I 0,I 0,I 0] #[(0,1),(1,1),(2,1),(3,1),(4,1)]:=⟨Tryz.zeroValue135,_,Tryz.underlying135,λw=>by simp [Tryz.sizeOf3,Tryz.sizeOf37]⟩
theorem Q2k:TA Tryz.prog 135 5:=⟨Tryz.isAgg135,Tryz.sizeOf135⟩
theorem Qvm:TE Tryz.prog 124 5 56 [.slice none 0 0,I 0,I 0,I 0,I 0]:=⟨135,Tryz.t135,Tryz.underlying124,Tryz.type135,⟨_,z,z⟩,z,z,z,by decide⟩
theorem Que:TS Tryz.prog 124 5:=⟨135,Tryz.underlying124,Tryz.sizeOf135⟩
theorem Qvb:TE Tryz.prog 126 4 48 [.slice none 0 0,I 0,I 0,I 0]:=⟨133,Tryz.t133,Tryz.underlying126,Tryz.type133,⟨_,z,z⟩,z,z,z,by decide⟩
theorem Qtj:TS Tryz.prog 126 4:=⟨133,Tryz.underlying126,Tryz.sizeOf133⟩
theorem Quu:FA Tryz.prog 133 1 1:=Qgp (n:=0) Tryz.underlying133 z z Tryz.sizeOf3
theorem Qr6:FA Tryz.prog 133 3 3:=Qgp (n:=0) Tryz.underlying133 z z Tryz.sizeOf3
theorem Q14:BT Tryz.prog 133 [.slice none 0 0,I 0,I 0,I 0] #[(0,1),(1,1),(2,1),(3,1)]:=⟨Tryz.zeroValue133,_,Tryz.underlying133,λw=>by simp [Tryz.sizeOf3,Tryz.sizeOf37]⟩
theorem Q7a:TA Tryz.prog 133 4:=⟨Tryz.isAgg133,Tryz.sizeOf133⟩
theorem Qvy:FA Tryz.prog 133 0 0:=Qgp (n:=0) Tryz.underlying133 z z Tryz.sizeOf37
theorem Qsh:FA Tryz.prog 133 2 2:=Qgp (n:=0) Tryz.underlying133 z z Tryz.sizeOf3
theorem Qva:TE Tryz.prog 128 3 40 [.slice none 0 0,I 0,I 0]:=⟨131,Tryz.t131,Tryz.underlying128,Tryz.type131,⟨_,z,z⟩,z,z,z,by decide⟩
theorem Qw9:TS Tryz.prog 128 3:=⟨131,Tryz.underlying128,Tryz.sizeOf131⟩
theorem Qx4:FA Tryz.prog 131 1 1:=Qgp (n:=0) Tryz.underlying131 z z Tryz.sizeOf3
theorem Qxq:FA Tryz.prog 131 2 2:=Qgp (n:=0) Tryz.underlying131 z z Tryz.sizeOf3
theorem Q1n:BT Tryz.prog 131 [.slice none 0 0,I 0,I 0] #[(0,1),(1,1),(2,1)]:=⟨Tryz.zeroValue131,_,Tryz.underlying131,λw=>by simp [Tryz.sizeOf3,Tryz.sizeOf37]⟩
theorem Je0:TA Tryz.prog 131 3:=⟨Tryz.isAgg131,Tryz.sizeOf131⟩
theorem Qvs:FA Tryz.prog 131 0 0:=Qgp (n:=0) Tryz.underlying131 z z Tryz.sizeOf37
theorem Jby:TE Tryz.prog 27 4 32 [I 0,I 0,I 0,I 0]:=⟨41,Tryz.t41,Tryz.underlying27,Tryz.type41,⟨_,z,z⟩,z,z,z,by decide⟩
theorem Jij:BT Tryz.prog 41 [I 0,I 0,I 0,I 0] #[(0,1),(1,1),(2,1),(3,1)]:=⟨Tryz.zeroValue41,_,Tryz.underlying41,λw=>by simp [Tryz.sizeOf3]⟩
theorem Q7j:TS Tryz.prog 27 4:=⟨41,Tryz.underlying27,Tryz.sizeOf41⟩
theorem Qtf:FA Tryz.prog 41 0 0:=Qgp (n:=0) Tryz.underlying41 z z Tryz.sizeOf3
theorem Jgd:BT Tryz.prog 29 [.slice none 0 0,.slice none 0 0] #[(0,1),(1,1)]:=⟨Tryz.zeroValue29,_,Tryz.underlying29,λw=>by simp [Tryz.sizeOf26,Tryz.sizeOf27]⟩
theorem Q9d:TA Tryz.prog 29 2:=⟨Tryz.isAgg29,Tryz.sizeOf29⟩
theorem Jdz:TE Tryz.prog 95 4 32 [I 0,I 0,I 0,I 0]:=⟨96,Tryz.t96,Tryz.underlying95,Tryz.type96,⟨_,z,z⟩,z,z,z,by decide⟩
theorem Qsn:FA Tryz.prog 29 0 0:=Qgp (n:=0) Tryz.underlying29 z z Tryz.sizeOf26
theorem Q5u:T1 Tryz.prog 26:=⟨λw=>by simp [isAgg,run_underlying Tryz.underlying26],Tryz.sizeOf26⟩
theorem Jb4:TS Tryz.prog 26 3:=⟨39,Tryz.underlying26,Tryz.sizeOf39⟩
theorem Q0n:FA Tryz.prog 39 1 1:=Qgp (n:=0) Tryz.underlying39 z z Tryz.sizeOf3
theorem Q98:TA Tryz.prog 41 4:=⟨Tryz.isAgg41,Tryz.sizeOf41⟩
theorem Qup:FA Tryz.prog 29 1 1:=Qgp (n:=0) Tryz.underlying29 z z Tryz.sizeOf27
theorem Jba:T1 Tryz.prog 27:=⟨λw=>by simp [isAgg,run_underlying Tryz.underlying27],Tryz.sizeOf27⟩
theorem Q5a:FA Tryz.prog 41 1 1:=Qgp (n:=0) Tryz.underlying41 z z Tryz.sizeOf3
theorem Q39:FA Tryz.prog 41 2 2:=Qgp (n:=0) Tryz.underlying41 z z Tryz.sizeOf3
theorem Q4i:FA Tryz.prog 41 3 3:=Qgp (n:=0) Tryz.underlying41 z z Tryz.sizeOf3
theorem Jf5:TA Tryz.prog 87 2:=⟨Tryz.isAgg87,Tryz.sizeOf87⟩
theorem Jg3:SEq Tryz.prog 87 Pair:=Jcp Tryz.underlying87 Tryz.stoodInHeld87 Tryz.eqGuardType87 Tryz.underlying3 z
theorem Qah {w:World} {x:Request} {F0 F1 F2:List Nat} {v0 v1 v2:Value} (h0:rd w F0 [v0] x.fR) (h1:rd w F1 [v1] x.fG) (h2:rd w F2 [v2] x.fV):rd w (F0++(F1++F2)) [I x.fe,I x.fJ.fW,I x.fJ.fD,I x.fJ.fH,I x.fJ.fQ,I x.fU,v0,v1,I x.fT,v2] x:=⟨_,_,_,_,_,_,rfl,rfl,h0,h1,h2⟩
theorem Quc {w:World} {x:Carton} {F0:List Nat} {v0:Value} (h0:rd w F0 [v0] x.f8):rd w F0 [I x.fc,I x.f9,v0] x:=⟨_,_,rfl,rfl,h0⟩
theorem Q89 {w:World} {x:Shelf} {F0:List Nat} {v0:Value} (h0:rd w F0 [v0] x.f0):rd w F0 [v0,I x.fW,I x.fD,I x.fH,I x.fQ] x:=⟨_,_,rfl,rfl,h0⟩
theorem Jb8 {w:World} {x:Layer} {F0:List Nat} {v0:Value} (h0:rd w F0 [v0] x.fP):rd w F0 [v0,I x.fD,I x.fH,I x.fQ] x:=⟨_,_,rfl,rfl,h0⟩
theorem Q4f {w:World} {x:Plan} {F0 F1:List Nat} {v0 v1:Value} (h0:rd w F0 [v0] x.fE) (h1:rd w F1 [v1] x.fa):rd w (F0++F1) [v0,v1] x:=⟨_,_,_,_,rfl,rfl,h0,h1⟩
abbrev cR (x:Request) (a b c:Value):List Value:=[I x.fe,I x.fJ.fW,I x.fJ.fD,I x.fJ.fH,I x.fJ.fQ,I x.fU,a,b,I x.fT,c]
end Go.Proofs.YtpcmapfabndggabGreatDoor
