/- FnMirrored: facts on.. -/
import Derived.Test.YthddjkokpfdbnaaGreatMirroredBD
import Derived.Test.YthddjkokpfdbnaaGreatS9
import Derived.Test.YthddjkokpfdbnaaGreatS12
import Derived.Test.YthddjkokpfdbnaaGreatS15
import Derived.Test.YthddjkokpfdbnaaGreatS17
import Derived.Test.YthddjkokpfdbnaaGreatS20
import Derived.Test.YthddjkokpfdbnaaGreatProg
import Derived.Test.YthddjkokpfdbnaaGreatShelf
set_option maxRecDepth 20000
set_option linter.unusedSimpArgs false
set_option linter.unusedVariables false
set_option linter.unnecessarySimpa false
namespace Go.Proofs.YthddjkokpfdbnaaGreat
open Go Go.RowKit
open Enc (rd ow)
open Arg (argv)
open Ret (retv)
open Go.Proofs.Tryz

theorem Qgt:Tryz.prog.follows .mixedOrders = true:=by kernel_rfl
theorem Jig:TS Tryz.prog 22 1:=⟨5,Tryz.underlying22,Tryz.sizeOf5⟩
theorem t15:T1 Tryz.prog 5:=⟨fun w=>by simp [isAgg,run_underlying Tryz.underlying5],Tryz.sizeOf5⟩
theorem Jev:BT Tryz.prog 152 [.slice none 0 0,I 0,I 0] #[(0,1),(1,1),(2,1)]:=⟨Tryz.zeroValue152,_,Tryz.underlying152,fun w=>by simp [Tryz.sizeOf22,Tryz.sizeOf3]⟩
theorem Q2d:FA Tryz.prog 152 2 2:=Qf4 (n:=0) Tryz.underlying152 z z Tryz.sizeOf3
theorem t13:T1 Tryz.prog 3:=⟨fun w=>by simp [isAgg,run_underlying Tryz.underlying3],Tryz.sizeOf3⟩
theorem Q10:FA Tryz.prog 152 1 1:=Qf4 (n:=0) Tryz.underlying152 z z Tryz.sizeOf3
theorem Q9h:FA Tryz.prog 152 0 0:=Qf4 (n:=0) Tryz.underlying152 z z Tryz.sizeOf22
theorem Jik:T1 Tryz.prog 22:=⟨fun w=>by simp [isAgg,run_underlying Tryz.underlying22],Tryz.sizeOf22⟩
theorem Qhk:TS Tryz.prog 37 1:=⟨3,Tryz.underlying37,Tryz.sizeOf3⟩
theorem Qb6:TE Tryz.prog 37 1 8 [I 0]:=⟨3,Tryz.t3,Tryz.underlying37,Tryz.type3,⟨_,z,z⟩,z,z,z,by decide⟩
theorem Jii:BT Tryz.prog 25 [I 0,I 0,I 0,I 0] #[(0,1),(1,1),(2,1),(3,1)]:=⟨Tryz.zeroValue25,_,Tryz.underlying25,fun w=>by simp [Tryz.sizeOf3]⟩
theorem Jiw:BT Tryz.prog 30 [I 0,I 0,I 0,I 0,I 0,I 0,.slice none 0 0,.slice none 0 0,I 0,.slice none 0 0] #[(0,1),(1,4),(5,1),(6,1),(7,1),(8,1),(9,1)]:=⟨Tryz.zeroValue30,_,Tryz.underlying30,fun w=>by simp [Tryz.sizeOf25,Tryz.sizeOf26,Tryz.sizeOf27,Tryz.sizeOf28,Tryz.sizeOf3]⟩
theorem Qtq:FA Tryz.prog 30 2 5:=Qf4 (n:=0) Tryz.underlying30 z z Tryz.sizeOf3
theorem Qn2:FA Tryz.prog 30 3 6:=Qf4 (n:=0) Tryz.underlying30 z z Tryz.sizeOf26
theorem Q02:T1 Tryz.prog 26:=⟨fun w=>by simp [isAgg,run_underlying Tryz.underlying26],Tryz.sizeOf26⟩
theorem Q7p:BT Tryz.prog 141 [I 0,I 0] #[(0,1),(1,1)]:=⟨Tryz.zeroValue141,_,Tryz.underlying141,fun w=>by simp [Tryz.sizeOf3]⟩
theorem Jef:TE Tryz.prog 26 2 16 [I 0,I 0]:=⟨141,Tryz.t141,Tryz.underlying26,Tryz.type141,⟨_,z,z⟩,z,z,z,by decide⟩
theorem Qec:FA Tryz.prog 30 4 7:=Qf4 (n:=0) Tryz.underlying30 z z Tryz.sizeOf27
theorem Qus:T1 Tryz.prog 27:=⟨fun w=>by simp [isAgg,run_underlying Tryz.underlying27],Tryz.sizeOf27⟩
theorem Q5b:BT Tryz.prog 76 [I 0,I 0,I 0,I 0,I 0,I 0,I 0] #[(0,1),(1,1),(2,1),(3,1),(4,1),(5,1),(6,1)]:=⟨Tryz.zeroValue76,_,Tryz.underlying76,fun w=>by simp [Tryz.sizeOf3]⟩
theorem Qw6:TE Tryz.prog 27 7 56 [I 0,I 0,I 0,I 0,I 0,I 0,I 0]:=⟨76,Tryz.t76,Tryz.underlying27,Tryz.type76,⟨_,z,z⟩,z,z,z,by decide⟩
theorem Jai:BT Tryz.prog 83 [I 0,I 0,I 0,I 0,I 0,I 0,I 0] #[(0,1),(1,1),(2,1),(3,1),(4,1),(5,1),(6,1)]:=⟨Tryz.zeroValue83,_,Tryz.underlying83,fun w=>by simp [Tryz.sizeOf3]⟩
theorem Qyd:FA Tryz.prog 83 1 1:=Qf4 (n:=0) Tryz.underlying83 z z Tryz.sizeOf3
theorem Qyz:FA Tryz.prog 83 2 2:=Qf4 (n:=0) Tryz.underlying83 z z Tryz.sizeOf3
theorem Qxd:FA Tryz.prog 83 3 3:=Qf4 (n:=0) Tryz.underlying83 z z Tryz.sizeOf3
theorem Qxj:FA Tryz.prog 83 6 6:=Qf4 (n:=0) Tryz.underlying83 z z Tryz.sizeOf3
theorem Qgw:FA Tryz.prog 30 6 9:=Qf4 (n:=0) Tryz.underlying30 z z Tryz.sizeOf28
theorem Qvf:T1 Tryz.prog 28:=⟨fun w=>by simp [isAgg,run_underlying Tryz.underlying28],Tryz.sizeOf28⟩
theorem Q06:TA Tryz.prog 83 7:=⟨Tryz.isAgg83,Tryz.sizeOf83⟩
theorem Q95:TE Tryz.prog 28 7 56 [I 0,I 0,I 0,I 0,I 0,I 0,I 0]:=⟨83,Tryz.t83,Tryz.underlying28,Tryz.type83,⟨_,z,z⟩,z,z,z,by decide⟩
theorem Qdu:TA Tryz.prog 30 10:=⟨Tryz.isAgg30,Tryz.sizeOf30⟩
theorem Qug:FA Tryz.prog 25 0 0:=Qf4 (n:=0) Tryz.underlying25 z z Tryz.sizeOf3
theorem Qul:FA Tryz.prog 25 1 1:=Qf4 (n:=0) Tryz.underlying25 z z Tryz.sizeOf3
theorem Qv1:FA Tryz.prog 25 2 2:=Qf4 (n:=0) Tryz.underlying25 z z Tryz.sizeOf3
theorem Qt0:FA Tryz.prog 25 3 3:=Qf4 (n:=0) Tryz.underlying25 z z Tryz.sizeOf3
theorem Qsv:FA Tryz.prog 76 0 0:=Qf4 (n:=0) Tryz.underlying76 z z Tryz.sizeOf3
theorem Quo:FA Tryz.prog 76 1 1:=Qf4 (n:=0) Tryz.underlying76 z z Tryz.sizeOf3
theorem Qt1:FA Tryz.prog 76 2 2:=Qf4 (n:=0) Tryz.underlying76 z z Tryz.sizeOf3
theorem Quf:FA Tryz.prog 76 3 3:=Qf4 (n:=0) Tryz.underlying76 z z Tryz.sizeOf3
theorem Q0z:FA Tryz.prog 76 4 4:=Qf4 (n:=0) Tryz.underlying76 z z Tryz.sizeOf3
theorem Qu5:FA Tryz.prog 76 5 5:=Qf4 (n:=0) Tryz.underlying76 z z Tryz.sizeOf3
theorem Qu4:FA Tryz.prog 76 6 6:=Qf4 (n:=0) Tryz.underlying76 z z Tryz.sizeOf3
theorem Q03:FA Tryz.prog 83 0 0:=Qf4 (n:=0) Tryz.underlying83 z z Tryz.sizeOf3
theorem Qw3:FA Tryz.prog 83 4 4:=Qf4 (n:=0) Tryz.underlying83 z z Tryz.sizeOf3
theorem Qv6:FA Tryz.prog 83 5 5:=Qf4 (n:=0) Tryz.underlying83 z z Tryz.sizeOf3
theorem Q40:FA Tryz.prog 30 0 0:=Qf4 (n:=0) Tryz.underlying30 z z Tryz.sizeOf3
theorem Qqy:FA Tryz.prog 30 1 1:=Qf4 (n:=3) Tryz.underlying30 z z Tryz.sizeOf25
theorem Q2z:TA Tryz.prog 25 4:=⟨Tryz.isAgg25,Tryz.sizeOf25⟩
theorem Q3j:FA Tryz.prog 30 5 8:=Qf4 (n:=0) Tryz.underlying30 z z Tryz.sizeOf3
theorem Ja5:TS Tryz.prog 26 2:=⟨141,Tryz.underlying26,Tryz.sizeOf141⟩
theorem Qx9:FA Tryz.prog 141 0 0:=Qf4 (n:=0) Tryz.underlying141 z z Tryz.sizeOf3
theorem Qyq:FA Tryz.prog 141 1 1:=Qf4 (n:=0) Tryz.underlying141 z z Tryz.sizeOf3
theorem Q2u:TS Tryz.prog 27 7:=⟨76,Tryz.underlying27,Tryz.sizeOf76⟩
theorem Qtp:TA Tryz.prog 76 7:=⟨Tryz.isAgg76,Tryz.sizeOf76⟩
theorem Qzs:TS Tryz.prog 28 7:=⟨83,Tryz.underlying28,Tryz.sizeOf83⟩
theorem Q3z:TE Tryz.prog 31 1 24 [.slice none 0 0]:=⟨37,Tryz.t37,Tryz.underlying31,Tryz.type37,⟨_,z,z⟩,z,z,z,by decide⟩
theorem Q07:TS Tryz.prog 31 1:=⟨37,Tryz.underlying31,Tryz.sizeOf37⟩
theorem Qr7:T1 Tryz.prog 37:=⟨fun w=>by simp [isAgg,run_underlying Tryz.underlying37],Tryz.sizeOf37⟩
theorem Jhm:BT Tryz.prog 136 [I 0,I 0] #[(0,1),(1,1)]:=⟨Tryz.zeroValue136,_,Tryz.underlying136,fun w=>by simp [Tryz.sizeOf3]⟩
theorem Qyr:FA Tryz.prog 136 0 0:=Qf4 (n:=0) Tryz.underlying136 z z Tryz.sizeOf3
theorem Qwk:FA Tryz.prog 136 1 1:=Qf4 (n:=0) Tryz.underlying136 z z Tryz.sizeOf3
theorem Je5:TA Tryz.prog 136 2:=⟨Tryz.isAgg136,Tryz.sizeOf136⟩
theorem Jdu:FD Tryz.prog 136 0 0 1 false:=⟨_,_,Tryz.underlying136,z,z,(fun w=>by simp [isAgg,run_underlying Tryz.underlying3]),Tryz.sizeOf3⟩
theorem Qzp:TE Tryz.prog 49 3 40 [I 0,I 0,.slice none 0 0]:=⟨66,Tryz.t66,Tryz.underlying49,Tryz.type66,⟨_,z,z⟩,z,z,z,by decide⟩
theorem Jic:BT Tryz.prog 66 [I 0,I 0,.slice none 0 0] #[(0,1),(1,1),(2,1)]:=⟨Tryz.zeroValue66,_,Tryz.underlying66,fun w=>by simp [Tryz.sizeOf3,Tryz.sizeOf37]⟩
theorem Qti:FA Tryz.prog 66 0 0:=Qf4 (n:=0) Tryz.underlying66 z z Tryz.sizeOf3
theorem Qiq:FA Tryz.prog 66 2 2:=Qf4 (n:=0) Tryz.underlying66 z z Tryz.sizeOf37
theorem Q6m:BT Tryz.prog 108 [I 0,I 0,I 0,I 0] #[(0,1),(1,1),(2,1),(3,1)]:=⟨Tryz.zeroValue108,_,Tryz.underlying108,fun w=>by simp [Tryz.sizeOf3]⟩
theorem Qwc:TA Tryz.prog 66 3:=⟨Tryz.isAgg66,Tryz.sizeOf66⟩
theorem Qtn:TA Tryz.prog 108 4:=⟨Tryz.isAgg108,Tryz.sizeOf108⟩
theorem Q6v:TS Tryz.prog 113 4:=⟨108,Tryz.underlying113,Tryz.sizeOf108⟩
theorem Qqn:FA Tryz.prog 108 0 0:=Qf4 (n:=0) Tryz.underlying108 z z Tryz.sizeOf3
theorem Qrw:FA Tryz.prog 108 1 1:=Qf4 (n:=0) Tryz.underlying108 z z Tryz.sizeOf3
theorem Qss:FA Tryz.prog 108 2 2:=Qf4 (n:=0) Tryz.underlying108 z z Tryz.sizeOf3
theorem Q32:FA Tryz.prog 108 3 3:=Qf4 (n:=0) Tryz.underlying108 z z Tryz.sizeOf3
theorem Q1p:FA Tryz.prog 181 0 0:=Qf4 (n:=0) Tryz.underlying181 z z Tryz.sizeOf37
theorem Q8w:FA Tryz.prog 181 1 1:=Qf4 (n:=0) Tryz.underlying181 z z Tryz.sizeOf3
theorem Qy1:FA Tryz.prog 181 2 2:=Qf4 (n:=0) Tryz.underlying181 z z Tryz.sizeOf3
theorem Q34:FA Tryz.prog 181 3 3:=Qf4 (n:=0) Tryz.underlying181 z z Tryz.sizeOf3
theorem Qy2:FA Tryz.prog 181 4 4:=Qf4 (n:=0) Tryz.underlying181 z z Tryz.sizeOf3
theorem Q6g:BT Tryz.prog 181 [.slice none 0 0,I 0,I 0,I 0,I 0] #[(0,1),(1,1),(2,1),(3,1),(4,1)]:=⟨Tryz.zeroValue181,_,Tryz.underlying181,fun w=>by simp [Tryz.sizeOf3,Tryz.sizeOf37]⟩
theorem Q6e:TA Tryz.prog 181 5:=⟨Tryz.isAgg181,Tryz.sizeOf181⟩
theorem Q4r:TE Tryz.prog 170 5 56 [.slice none 0 0,I 0,I 0,I 0,I 0]:=⟨181,Tryz.t181,Tryz.underlying170,Tryz.type181,⟨_,z,z⟩,z,z,z,by decide⟩
theorem Q1y:TS Tryz.prog 170 5:=⟨181,Tryz.underlying170,Tryz.sizeOf181⟩
theorem Q4v:TE Tryz.prog 172 4 48 [.slice none 0 0,I 0,I 0,I 0]:=⟨179,Tryz.t179,Tryz.underlying172,Tryz.type179,⟨_,z,z⟩,z,z,z,by decide⟩
theorem Qyn:TS Tryz.prog 172 4:=⟨179,Tryz.underlying172,Tryz.sizeOf179⟩
theorem Q4w:FA Tryz.prog 179 1 1:=Qf4 (n:=0) Tryz.underlying179 z z Tryz.sizeOf3
theorem Qya:FA Tryz.prog 179 3 3:=Qf4 (n:=0) Tryz.underlying179 z z Tryz.sizeOf3
theorem Q6s:BT Tryz.prog 179 [.slice none 0 0,I 0,I 0,I 0] #[(0,1),(1,1),(2,1),(3,1)]:=⟨Tryz.zeroValue179,_,Tryz.underlying179,fun w=>by simp [Tryz.sizeOf3,Tryz.sizeOf37]⟩
theorem Jcl:TA Tryz.prog 179 4:=⟨Tryz.isAgg179,Tryz.sizeOf179⟩
theorem Q33:FA Tryz.prog 179 0 0:=Qf4 (n:=0) Tryz.underlying179 z z Tryz.sizeOf37
theorem Qyj:FA Tryz.prog 179 2 2:=Qf4 (n:=0) Tryz.underlying179 z z Tryz.sizeOf3
theorem Q4t:TE Tryz.prog 174 3 40 [.slice none 0 0,I 0,I 0]:=⟨177,Tryz.t177,Tryz.underlying174,Tryz.type177,⟨_,z,z⟩,z,z,z,by decide⟩
theorem Q3h:TS Tryz.prog 174 3:=⟨177,Tryz.underlying174,Tryz.sizeOf177⟩
theorem Q63:FA Tryz.prog 177 1 1:=Qf4 (n:=0) Tryz.underlying177 z z Tryz.sizeOf3
theorem Q9a:FA Tryz.prog 177 2 2:=Qf4 (n:=0) Tryz.underlying177 z z Tryz.sizeOf3
theorem Q6o:BT Tryz.prog 177 [.slice none 0 0,I 0,I 0] #[(0,1),(1,1),(2,1)]:=⟨Tryz.zeroValue177,_,Tryz.underlying177,fun w=>by simp [Tryz.sizeOf3,Tryz.sizeOf37]⟩
theorem Jgr:TA Tryz.prog 177 3:=⟨Tryz.isAgg177,Tryz.sizeOf177⟩
theorem Q4i:FA Tryz.prog 177 0 0:=Qf4 (n:=0) Tryz.underlying177 z z Tryz.sizeOf37
theorem Q2y:TE Tryz.prog 50 4 32 [I 0,I 0,I 0,I 0]:=⟨59,Tryz.t59,Tryz.underlying50,Tryz.type59,⟨_,z,z⟩,z,z,z,by decide⟩
theorem Jd7:BT Tryz.prog 59 [I 0,I 0,I 0,I 0] #[(0,1),(1,1),(2,1),(3,1)]:=⟨Tryz.zeroValue59,_,Tryz.underlying59,fun w=>by simp [Tryz.sizeOf3]⟩
theorem Qvc:TS Tryz.prog 50 4:=⟨59,Tryz.underlying50,Tryz.sizeOf59⟩
theorem Qs8:FA Tryz.prog 59 0 0:=Qf4 (n:=0) Tryz.underlying59 z z Tryz.sizeOf3
theorem Jf4:BT Tryz.prog 52 [.slice none 0 0,.slice none 0 0] #[(0,1),(1,1)]:=⟨Tryz.zeroValue52,_,Tryz.underlying52,fun w=>by simp [Tryz.sizeOf49,Tryz.sizeOf50]⟩
theorem Qmr:TA Tryz.prog 52 2:=⟨Tryz.isAgg52,Tryz.sizeOf52⟩
theorem Q6t:TE Tryz.prog 113 4 32 [I 0,I 0,I 0,I 0]:=⟨108,Tryz.t108,Tryz.underlying113,Tryz.type108,⟨_,z,z⟩,z,z,z,by decide⟩
theorem Qbn:FA Tryz.prog 52 0 0:=Qf4 (n:=0) Tryz.underlying52 z z Tryz.sizeOf49
theorem Qme:T1 Tryz.prog 49:=⟨fun w=>by simp [isAgg,run_underlying Tryz.underlying49],Tryz.sizeOf49⟩
theorem Qs3:TS Tryz.prog 49 3:=⟨66,Tryz.underlying49,Tryz.sizeOf66⟩
theorem Qtg:FA Tryz.prog 66 1 1:=Qf4 (n:=0) Tryz.underlying66 z z Tryz.sizeOf3
theorem Qx6:TA Tryz.prog 59 4:=⟨Tryz.isAgg59,Tryz.sizeOf59⟩
theorem Qcy:FA Tryz.prog 52 1 1:=Qf4 (n:=0) Tryz.underlying52 z z Tryz.sizeOf50
theorem Qs5:T1 Tryz.prog 50:=⟨fun w=>by simp [isAgg,run_underlying Tryz.underlying50],Tryz.sizeOf50⟩
theorem Qso:FA Tryz.prog 59 1 1:=Qf4 (n:=0) Tryz.underlying59 z z Tryz.sizeOf3
theorem Qs9:FA Tryz.prog 59 3 3:=Qf4 (n:=0) Tryz.underlying59 z z Tryz.sizeOf3
theorem Jbd:TA Tryz.prog 141 2:=⟨Tryz.isAgg141,Tryz.sizeOf141⟩
theorem Jfr:SEq Tryz.prog 141 Pair:=Jci Tryz.underlying141 Tryz.stoodInHeld141 Tryz.eqGuardType141 Tryz.underlying3 z
theorem Qs4:FA Tryz.prog 59 2 2:=Qf4 (n:=0) Tryz.underlying59 z z Tryz.sizeOf3
theorem Jim:T1 Tryz.prog 31:=⟨fun w=>by simp [isAgg,run_underlying Tryz.underlying31],Tryz.sizeOf31⟩
theorem Jda:FD Tryz.prog 108 0 0 1 false:=⟨_,_,Tryz.underlying108,z,z,(fun w=>by simp [isAgg,run_underlying Tryz.underlying3]),Tryz.sizeOf3⟩
theorem Jgg:SEq Tryz.prog 59 Spot:=Jdt Tryz.underlying59 Tryz.stoodInHeld59 Tryz.eqGuardType59 Tryz.underlying3 z
theorem Jc8:FD Tryz.prog 108 1 1 1 false:=⟨_,_,Tryz.underlying108,z,z,(fun w=>by simp [isAgg,run_underlying Tryz.underlying3]),Tryz.sizeOf3⟩
theorem Qah {w:World} {x:Request} {F0 F1 F2:List Nat} {v0 v1 v2:Value} (h0:rd w F0 [v0] x.fL) (h1:rd w F1 [v1] x.fT) (h2:rd w F2 [v2] x.fG):rd w (F0 ++ (F1 ++ F2)) [I x.qJ,I x.fQ.fW,I x.fQ.fD,I x.fQ.fH,I x.fQ.fV,I x.fR,v0,v1,I x.fP,v2] x:=⟨_,_,_,_,_,_,rfl,rfl,h0,h1,h2⟩
theorem Qgv {w:World} {x:Carton} {F0:List Nat} {v0:Value} (h0:rd w F0 [v0] x.fM):rd w F0 [I x.fO,I x.fE,v0] x:=⟨_,_,rfl,rfl,h0⟩
theorem Qct {w:World} {x:Plan} {F0 F1:List Nat} {v0 v1:Value} (h0:rd w F0 [v0] x.fJ) (h1:rd w F1 [v1] x.fU):rd w (F0 ++ F1) [v0,v1] x:=⟨_,_,_,_,rfl,rfl,h0,h1⟩
theorem Jdz {w:World} {x:Shelf} {F0:List Nat} {v0:Value} (h0:rd w F0 [v0] x.qY):rd w F0 [v0,I x.fW,I x.fD,I x.fH,I x.fV] x:=⟨_,_,rfl,rfl,h0⟩
abbrev cR (x:Request) (a b c:Value):List Value:=[I x.qJ,I x.fQ.fW,I x.fQ.fD,I x.fQ.fH,I x.fQ.fV,I x.fR,a,b,I x.fP,c]
end Go.Proofs.YthddjkokpfdbnaaGreat
