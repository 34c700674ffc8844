/- FnTampered: facts on.. -/
import Derived.Test.YtpcmapfabndggaaGreatTamperedBD
import Derived.Test.YtpcmapfabndggaaGreatS9
import Derived.Test.YtpcmapfabndggaaGreatS12
import Derived.Test.YtpcmapfabndggaaGreatS15
import Derived.Test.YtpcmapfabndggaaGreatS17
import Derived.Test.YtpcmapfabndggaaGreatS20
import Derived.Test.YtpcmapfabndggaaGreatProg
import Derived.Test.YtpcmapfabndggaaGreatS19
import Derived.Test.YtpcmapfabndggaaGreatShelf
set_option maxRecDepth 20000
set_option linter.unusedSimpArgs false
set_option linter.unusedVariables false
set_option linter.unnecessarySimpa false
namespace Go.Proofs.YtpcmapfabndggaaGreat
open Go Go.RowKit
open Enc (rd ow)
open Arg (argv)
open Ret (retv)
open Go.Proofs.Tryz

theorem Qie:Tryz.prog.follows .mixedOrders=true:=by kernel_rfl
theorem Jjh:TS Tryz.prog 22 1:=⟨5,Tryz.underlying22,Tryz.sizeOf5⟩
theorem t15:T1 Tryz.prog 5:=⟨λw=>by simp [isAgg,run_underlying Tryz.underlying5],Tryz.sizeOf5⟩
theorem Jhj:BT Tryz.prog 149 [.slice none 0 0,I 0,I 0] #[(0,1),(1,1),(2,1)]:=⟨Tryz.zeroValue149,_,Tryz.underlying149,λw=>by simp [Tryz.sizeOf22,Tryz.sizeOf3]⟩
theorem Q2e:FA Tryz.prog 149 2 2:=Qgs (n:=0) Tryz.underlying149 z z Tryz.sizeOf3
theorem t13:T1 Tryz.prog 3:=⟨λw=>by simp [isAgg,run_underlying Tryz.underlying3],Tryz.sizeOf3⟩
theorem Q2t:FA Tryz.prog 149 1 1:=Qgs (n:=0) Tryz.underlying149 z z Tryz.sizeOf3
theorem Q9z:FA Tryz.prog 149 0 0:=Qgs (n:=0) Tryz.underlying149 z z Tryz.sizeOf22
theorem Jkk:T1 Tryz.prog 22:=⟨λw=>by simp [isAgg,run_underlying Tryz.underlying22],Tryz.sizeOf22⟩
theorem Qhi:TS Tryz.prog 49 1:=⟨3,Tryz.underlying49,Tryz.sizeOf3⟩
theorem Qb5:TE Tryz.prog 49 1 8 [I 0]:=⟨3,Tryz.t3,Tryz.underlying49,Tryz.type3,⟨_,z,z⟩,z,z,z,by decide⟩
theorem Jke:BT Tryz.prog 25 [I 0,I 0,I 0,I 0] #[(0,1),(1,1),(2,1),(3,1)]:=⟨Tryz.zeroValue25,_,Tryz.underlying25,λw=>by simp [Tryz.sizeOf3]⟩
theorem Jko:BT Tryz.prog 30 [I 0,I 0,I 0,I 0,I 0,I 0,.slice none 0 0,.slice none 0 0,I 0,.slice none 0 0] #[(0,1),(1,4),(5,1),(6,1),(7,1),(8,1),(9,1)]:=⟨Tryz.zeroValue30,_,Tryz.underlying30,λw=>by simp [Tryz.sizeOf25,Tryz.sizeOf26,Tryz.sizeOf27,Tryz.sizeOf28,Tryz.sizeOf3]⟩
theorem Qtt:FA Tryz.prog 30 2 5:=Qgs (n:=0) Tryz.underlying30 z z Tryz.sizeOf3
theorem Qn9:FA Tryz.prog 30 3 6:=Qgs (n:=0) Tryz.underlying30 z z Tryz.sizeOf26
theorem Q18:T1 Tryz.prog 26:=⟨λw=>by simp [isAgg,run_underlying Tryz.underlying26],Tryz.sizeOf26⟩
theorem Q9p:BT Tryz.prog 106 [I 0,I 0] #[(0,1),(1,1)]:=⟨Tryz.zeroValue106,_,Tryz.underlying106,λw=>by simp [Tryz.sizeOf3]⟩
theorem Jgi:TE Tryz.prog 26 2 16 [I 0,I 0]:=⟨106,Tryz.t106,Tryz.underlying26,Tryz.type106,⟨_,z,z⟩,z,z,z,by decide⟩
theorem Qew:FA Tryz.prog 30 4 7:=Qgs (n:=0) Tryz.underlying30 z z Tryz.sizeOf27
theorem t127:T1 Tryz.prog 27:=⟨λw=>by simp [isAgg,run_underlying Tryz.underlying27],Tryz.sizeOf27⟩
theorem Q7l:BT Tryz.prog 65 [I 0,I 0,I 0,I 0,I 0,I 0,I 0] #[(0,1),(1,1),(2,1),(3,1),(4,1),(5,1),(6,1)]:=⟨Tryz.zeroValue65,_,Tryz.underlying65,λw=>by simp [Tryz.sizeOf3]⟩
theorem Qx2:TE Tryz.prog 27 7 56 [I 0,I 0,I 0,I 0,I 0,I 0,I 0]:=⟨65,Tryz.t65,Tryz.underlying27,Tryz.type65,⟨_,z,z⟩,z,z,z,by decide⟩
theorem Jbx:BT Tryz.prog 72 [I 0,I 0,I 0,I 0,I 0,I 0,I 0] #[(0,1),(1,1),(2,1),(3,1),(4,1),(5,1),(6,1)]:=⟨Tryz.zeroValue72,_,Tryz.underlying72,λw=>by simp [Tryz.sizeOf3]⟩
theorem Qzf:FA Tryz.prog 72 1 1:=Qgs (n:=0) Tryz.underlying72 z z Tryz.sizeOf3
theorem Qz3:FA Tryz.prog 72 2 2:=Qgs (n:=0) Tryz.underlying72 z z Tryz.sizeOf3
theorem Qx5:FA Tryz.prog 72 3 3:=Qgs (n:=0) Tryz.underlying72 z z Tryz.sizeOf3
theorem Qxx:FA Tryz.prog 72 6 6:=Qgs (n:=0) Tryz.underlying72 z z Tryz.sizeOf3
theorem Qhf:FA Tryz.prog 30 6 9:=Qgs (n:=0) Tryz.underlying30 z z Tryz.sizeOf28
theorem Qvh:T1 Tryz.prog 28:=⟨λw=>by simp [isAgg,run_underlying Tryz.underlying28],Tryz.sizeOf28⟩
theorem Q14:TA Tryz.prog 72 7:=⟨Tryz.isAgg72,Tryz.sizeOf72⟩
theorem Jbs:TE Tryz.prog 28 7 56 [I 0,I 0,I 0,I 0,I 0,I 0,I 0]:=⟨72,Tryz.t72,Tryz.underlying28,Tryz.type72,⟨_,z,z⟩,z,z,z,by decide⟩
theorem Qe6:TA Tryz.prog 30 10:=⟨Tryz.isAgg30,Tryz.sizeOf30⟩
theorem Qus:FA Tryz.prog 25 0 0:=Qgs (n:=0) Tryz.underlying25 z z Tryz.sizeOf3
theorem Que:FA Tryz.prog 25 1 1:=Qgs (n:=0) Tryz.underlying25 z z Tryz.sizeOf3
theorem Qub:FA Tryz.prog 25 2 2:=Qgs (n:=0) Tryz.underlying25 z z Tryz.sizeOf3
theorem Qsi:FA Tryz.prog 25 3 3:=Qgs (n:=0) Tryz.underlying25 z z Tryz.sizeOf3
theorem Qsr:FA Tryz.prog 65 0 0:=Qgs (n:=0) Tryz.underlying65 z z Tryz.sizeOf3
theorem Qu5:FA Tryz.prog 65 1 1:=Qgs (n:=0) Tryz.underlying65 z z Tryz.sizeOf3
theorem Qud:FA Tryz.prog 65 2 2:=Qgs (n:=0) Tryz.underlying65 z z Tryz.sizeOf3
theorem Qun:FA Tryz.prog 65 3 3:=Qgs (n:=0) Tryz.underlying65 z z Tryz.sizeOf3
theorem Q17:FA Tryz.prog 65 4 4:=Qgs (n:=0) Tryz.underlying65 z z Tryz.sizeOf3
theorem Qvj:FA Tryz.prog 65 5 5:=Qgs (n:=0) Tryz.underlying65 z z Tryz.sizeOf3
theorem Qvp:FA Tryz.prog 65 6 6:=Qgs (n:=0) Tryz.underlying65 z z Tryz.sizeOf3
theorem Q1u:FA Tryz.prog 72 0 0:=Qgs (n:=0) Tryz.underlying72 z z Tryz.sizeOf3
theorem Qx0:FA Tryz.prog 72 4 4:=Qgs (n:=0) Tryz.underlying72 z z Tryz.sizeOf3
theorem Qv2:FA Tryz.prog 72 5 5:=Qgs (n:=0) Tryz.underlying72 z z Tryz.sizeOf3
theorem Q4j:FA Tryz.prog 30 0 0:=Qgs (n:=0) Tryz.underlying30 z z Tryz.sizeOf3
theorem Qs7:FA Tryz.prog 30 1 1:=Qgs (n:=3) Tryz.underlying30 z z Tryz.sizeOf25
theorem Qw1:TA Tryz.prog 25 4:=⟨Tryz.isAgg25,Tryz.sizeOf25⟩
theorem Q4q:FA Tryz.prog 30 5 8:=Qgs (n:=0) Tryz.underlying30 z z Tryz.sizeOf3
theorem Jcl:TS Tryz.prog 26 2:=⟨106,Tryz.underlying26,Tryz.sizeOf106⟩
theorem Qzb:FA Tryz.prog 106 0 0:=Qgs (n:=0) Tryz.underlying106 z z Tryz.sizeOf3
theorem Qy9:FA Tryz.prog 106 1 1:=Qgs (n:=0) Tryz.underlying106 z z Tryz.sizeOf3
theorem Q3v:TS Tryz.prog 27 7:=⟨65,Tryz.underlying27,Tryz.sizeOf65⟩
theorem Qto:TA Tryz.prog 65 7:=⟨Tryz.isAgg65,Tryz.sizeOf65⟩
theorem Qzq:TS Tryz.prog 28 7:=⟨72,Tryz.underlying28,Tryz.sizeOf72⟩
theorem Jce:TA Tryz.prog 106 2:=⟨Tryz.isAgg106,Tryz.sizeOf106⟩
theorem Jgn:SEq Tryz.prog 106 Pair:=Jew Tryz.underlying106 Tryz.stoodInHeld106 Tryz.eqGuardType106 Tryz.underlying3 z
theorem Qxu:TS Tryz.prog 46 1:=⟨49,Tryz.underlying46,Tryz.sizeOf49⟩
theorem Qso:T1 Tryz.prog 49:=⟨λw=>by simp [isAgg,run_underlying Tryz.underlying49],Tryz.sizeOf49⟩
theorem Qyy:TE Tryz.prog 46 1 24 [.slice none 0 0]:=⟨49,Tryz.t49,Tryz.underlying46,Tryz.type49,⟨_,z,z⟩,z,z,z,by decide⟩
theorem Q6a:TE Tryz.prog 31 3 40 [I 0,I 0,.slice none 0 0]:=⟨53,Tryz.t53,Tryz.underlying31,Tryz.type53,⟨_,z,z⟩,z,z,z,by decide⟩
theorem Jkf:BT Tryz.prog 53 [I 0,I 0,.slice none 0 0] #[(0,1),(1,1),(2,1)]:=⟨Tryz.zeroValue53,_,Tryz.underlying53,λw=>by simp [Tryz.sizeOf3,Tryz.sizeOf49]⟩
theorem Q0b:FA Tryz.prog 53 0 0:=Qgs (n:=0) Tryz.underlying53 z z Tryz.sizeOf3
theorem Qvk:FA Tryz.prog 53 2 2:=Qgs (n:=0) Tryz.underlying53 z z Tryz.sizeOf49
theorem Jf8:BT Tryz.prog 58 [I 0,I 0,I 0,I 0] #[(0,1),(1,1),(2,1),(3,1)]:=⟨Tryz.zeroValue58,_,Tryz.underlying58,λw=>by simp [Tryz.sizeOf3]⟩
theorem Q4v:TA Tryz.prog 53 3:=⟨Tryz.isAgg53,Tryz.sizeOf53⟩
theorem Q08:TA Tryz.prog 58 4:=⟨Tryz.isAgg58,Tryz.sizeOf58⟩
theorem Qtp:FA Tryz.prog 58 0 0:=Qgs (n:=0) Tryz.underlying58 z z Tryz.sizeOf3
theorem Qu8:FA Tryz.prog 58 1 1:=Qgs (n:=0) Tryz.underlying58 z z Tryz.sizeOf3
theorem Qv3:FA Tryz.prog 58 2 2:=Qgs (n:=0) Tryz.underlying58 z z Tryz.sizeOf3
theorem Q15:FA Tryz.prog 58 3 3:=Qgs (n:=0) Tryz.underlying58 z z Tryz.sizeOf3
theorem Jbr:TS Tryz.prog 57 4:=⟨58,Tryz.underlying57,Tryz.sizeOf58⟩
theorem Qwr:TE Tryz.prog 116 5 56 [.slice none 0 0,I 0,I 0,I 0,I 0]:=⟨127,Tryz.t127,Tryz.underlying116,Tryz.type127,⟨_,z,z⟩,z,z,z,by decide⟩
theorem Qvd:TS Tryz.prog 116 5:=⟨127,Tryz.underlying116,Tryz.sizeOf127⟩
theorem Qze:FA Tryz.prog 127 1 1:=Qgs (n:=0) Tryz.underlying127 z z Tryz.sizeOf3
theorem Qs4:FA Tryz.prog 127 4 4:=Qgs (n:=0) Tryz.underlying127 z z Tryz.sizeOf3
theorem Q2g:BT Tryz.prog 127 [.slice none 0 0,I 0,I 0,I 0,I 0] #[(0,1),(1,1),(2,1),(3,1),(4,1)]:=⟨Tryz.zeroValue127,_,Tryz.underlying127,λw=>by simp [Tryz.sizeOf3,Tryz.sizeOf49]⟩
theorem Qv0:FA Tryz.prog 127 0 0:=Qgs (n:=0) Tryz.underlying127 z z Tryz.sizeOf49
theorem Qs5:FA Tryz.prog 127 2 2:=Qgs (n:=0) Tryz.underlying127 z z Tryz.sizeOf3
theorem Qvz:FA Tryz.prog 127 3 3:=Qgs (n:=0) Tryz.underlying127 z z Tryz.sizeOf3
theorem Q4g:TA Tryz.prog 127 5:=⟨Tryz.isAgg127,Tryz.sizeOf127⟩
theorem Qwt:TE Tryz.prog 118 4 48 [.slice none 0 0,I 0,I 0,I 0]:=⟨125,Tryz.t125,Tryz.underlying118,Tryz.type125,⟨_,z,z⟩,z,z,z,by decide⟩
theorem Qug:TS Tryz.prog 118 4:=⟨125,Tryz.underlying118,Tryz.sizeOf125⟩
theorem Qvu:FA Tryz.prog 125 1 1:=Qgs (n:=0) Tryz.underlying125 z z Tryz.sizeOf3
theorem Qs2:FA Tryz.prog 125 3 3:=Qgs (n:=0) Tryz.underlying125 z z Tryz.sizeOf3
theorem Q3l:BT Tryz.prog 125 [.slice none 0 0,I 0,I 0,I 0] #[(0,1),(1,1),(2,1),(3,1)]:=⟨Tryz.zeroValue125,_,Tryz.underlying125,λw=>by simp [Tryz.sizeOf3,Tryz.sizeOf49]⟩
theorem Qw8:FA Tryz.prog 125 0 0:=Qgs (n:=0) Tryz.underlying125 z z Tryz.sizeOf49
theorem Qs0:FA Tryz.prog 125 2 2:=Qgs (n:=0) Tryz.underlying125 z z Tryz.sizeOf3
theorem Q81:TA Tryz.prog 125 4:=⟨Tryz.isAgg125,Tryz.sizeOf125⟩
theorem Qwf:TE Tryz.prog 120 3 40 [.slice none 0 0,I 0,I 0]:=⟨123,Tryz.t123,Tryz.underlying120,Tryz.type123,⟨_,z,z⟩,z,z,z,by decide⟩
theorem Qys:TS Tryz.prog 120 3:=⟨123,Tryz.underlying120,Tryz.sizeOf123⟩
theorem Qz5:FA Tryz.prog 123 1 1:=Qgs (n:=0) Tryz.underlying123 z z Tryz.sizeOf3
theorem Qzo:FA Tryz.prog 123 2 2:=Qgs (n:=0) Tryz.underlying123 z z Tryz.sizeOf3
theorem Q2m:BT Tryz.prog 123 [.slice none 0 0,I 0,I 0] #[(0,1),(1,1),(2,1)]:=⟨Tryz.zeroValue123,_,Tryz.underlying123,λw=>by simp [Tryz.sizeOf3,Tryz.sizeOf49]⟩
theorem Qxb:FA Tryz.prog 123 0 0:=Qgs (n:=0) Tryz.underlying123 z z Tryz.sizeOf49
theorem Q5l:TE Tryz.prog 32 4 32 [I 0,I 0,I 0,I 0]:=⟨41,Tryz.t41,Tryz.underlying32,Tryz.type41,⟨_,z,z⟩,z,z,z,by decide⟩
theorem Jg5:TA Tryz.prog 123 3:=⟨Tryz.isAgg123,Tryz.sizeOf123⟩
theorem Jhb:BT Tryz.prog 41 [I 0,I 0,I 0,I 0] #[(0,1),(1,1),(2,1),(3,1)]:=⟨Tryz.zeroValue41,_,Tryz.underlying41,λw=>by simp [Tryz.sizeOf3]⟩
theorem Q50:TS Tryz.prog 32 4:=⟨41,Tryz.underlying32,Tryz.sizeOf41⟩
theorem Q74:TA Tryz.prog 41 4:=⟨Tryz.isAgg41,Tryz.sizeOf41⟩
theorem Quc:FA Tryz.prog 41 0 0:=Qgs (n:=0) Tryz.underlying41 z z Tryz.sizeOf3
theorem Jie:BT Tryz.prog 34 [.slice none 0 0,.slice none 0 0] #[(0,1),(1,1)]:=⟨Tryz.zeroValue34,_,Tryz.underlying34,λw=>by simp [Tryz.sizeOf31,Tryz.sizeOf32]⟩
theorem Q2j:TA Tryz.prog 34 2:=⟨Tryz.isAgg34,Tryz.sizeOf34⟩
theorem Jb4:TE Tryz.prog 57 4 32 [I 0,I 0,I 0,I 0]:=⟨58,Tryz.t58,Tryz.underlying57,Tryz.type58,⟨_,z,z⟩,z,z,z,by decide⟩
theorem Qji:FA Tryz.prog 34 0 0:=Qgs (n:=0) Tryz.underlying34 z z Tryz.sizeOf31
theorem Qw2:T1 Tryz.prog 31:=⟨λw=>by simp [isAgg,run_underlying Tryz.underlying31],Tryz.sizeOf31⟩
theorem Q4n:TS Tryz.prog 31 3:=⟨53,Tryz.underlying31,Tryz.sizeOf53⟩
theorem Q0k:FA Tryz.prog 53 1 1:=Qgs (n:=0) Tryz.underlying53 z z Tryz.sizeOf3
theorem Qn2:FA Tryz.prog 34 1 1:=Qgs (n:=0) Tryz.underlying34 z z Tryz.sizeOf32
theorem Q0t:T1 Tryz.prog 32:=⟨λw=>by simp [isAgg,run_underlying Tryz.underlying32],Tryz.sizeOf32⟩
theorem Jin:BT Tryz.prog 185 [I 0,I 0] #[(0,1),(1,1)]:=⟨Tryz.zeroValue185,_,Tryz.underlying185,λw=>by simp [Tryz.sizeOf3]⟩
theorem Q0l:FA Tryz.prog 185 0 0:=Qgs (n:=0) Tryz.underlying185 z z Tryz.sizeOf3
theorem Qw4:FA Tryz.prog 185 1 1:=Qgs (n:=0) Tryz.underlying185 z z Tryz.sizeOf3
theorem Jg4:TA Tryz.prog 185 2:=⟨Tryz.isAgg185,Tryz.sizeOf185⟩
theorem Je4:FD Tryz.prog 185 0 0 1 false:=⟨_,_,Tryz.underlying185,z,z,(λw=>by simp [isAgg,run_underlying Tryz.underlying3]),Tryz.sizeOf3⟩
theorem Qzm:FA Tryz.prog 41 1 1:=Qgs (n:=0) Tryz.underlying41 z z Tryz.sizeOf3
theorem Q1w:FA Tryz.prog 41 2 2:=Qgs (n:=0) Tryz.underlying41 z z Tryz.sizeOf3
theorem Q1y:FA Tryz.prog 41 3 3:=Qgs (n:=0) Tryz.underlying41 z z Tryz.sizeOf3
theorem Jkg:T1 Tryz.prog 46:=⟨λw=>by simp [isAgg,run_underlying Tryz.underlying46],Tryz.sizeOf46⟩
theorem Qag {w:World} {x:Request} {F0 F1 F2:List Nat} {v0 v1 v2:Value} (h0:rd w F0 [v0] x.fP) (h1:rd w F1 [v1] x.fR) (h2:rd w F2 [v2] x.fU):rd w (F0++(F1++F2)) [I x.qY,I x.fJ.fW,I x.fJ.fD,I x.fJ.fH,I x.fJ.fQ,I x.fG,v0,v1,I x.fL,v2] x:=⟨_,_,_,_,_,_,rfl,rfl,h0,h1,h2⟩
theorem Qt7 {w:World} {x:Carton} {F0:List Nat} {v0:Value} (h0:rd w F0 [v0] x.f0):rd w F0 [I x.qJ,I x.fF,v0] x:=⟨_,_,rfl,rfl,h0⟩
theorem Jbg {w:World} {x:Shelf} {F0:List Nat} {v0:Value} (h0:rd w F0 [v0] x.f9):rd w F0 [v0,I x.fW,I x.fD,I x.fH,I x.fQ] x:=⟨_,_,rfl,rfl,h0⟩
theorem Je7 {w:World} {x:Layer} {F0:List Nat} {v0:Value} (h0:rd w F0 [v0] x.fE):rd w F0 [v0,I x.fD,I x.fH,I x.fQ] x:=⟨_,_,rfl,rfl,h0⟩
theorem Qwn {w:World} {x:Plan} {F0 F1:List Nat} {v0 v1:Value} (h0:rd w F0 [v0] x.fV) (h1:rd w F1 [v1] x.fT):rd w (F0++F1) [v0,v1] x:=⟨_,_,_,_,rfl,rfl,h0,h1⟩
abbrev cR (x:Request) (a b c:Value):List Value:=[I x.qY,I x.fJ.fW,I x.fJ.fD,I x.fJ.fH,I x.fJ.fQ,I x.fG,a,b,I x.fL,c]
end Go.Proofs.YtpcmapfabndggaaGreat
