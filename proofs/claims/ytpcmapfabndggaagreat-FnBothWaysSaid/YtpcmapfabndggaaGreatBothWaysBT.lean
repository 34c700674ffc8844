/- FnBothWays: facts on types of the functions that it reaches. Printed by gen.py. -/
import Derived.Test.YtpcmapfabndggaaGreatBothWaysBD
import Derived.Test.YtpcmapfabndggaaGreatS9
import Derived.Test.YtpcmapfabndggaaGreatS12
import Derived.Test.YtpcmapfabndggaaGreatS15
import Derived.Test.YtpcmapfabndggaaGreatS17
import Derived.Test.YtpcmapfabndggaaGreatS20
import Derived.Test.YtpcmapfabndggaaGreatProg
import Derived.Test.YtpcmapfabndggaaGreatShelf
set_option maxRecDepth 20000
set_option linter.unusedSimpArgs false
set_option linter.unusedVariables false
set_option linter.unnecessarySimpa false
namespace Go.Proofs.YtpcmapfabndggaaGreat
open Go Go.RowKit
open Enc (rd ow)
open Arg (argv)
open Ret (retv)
open Go.Proofs.Tryz

theorem mixo:Tryz.prog.follows .mixedOrders = true:=by kernel_rfl
theorem ts22:TS Tryz.prog 22 1:=⟨5,Tryz.underlying22,Tryz.sizeOf5⟩
theorem t15:T1 Tryz.prog 5:=⟨fun w=>by simp [isAgg,run_underlying Tryz.underlying5],Tryz.sizeOf5⟩
theorem bt149:BT Tryz.prog 149 [.slice none 0 0,I 0,I 0] #[(0,1),(1,1),(2,1)]:=⟨Tryz.zeroValue149,_,Tryz.underlying149,fun w=>by simp [Tryz.sizeOf22,Tryz.sizeOf3]⟩
theorem fa149_2:FA Tryz.prog 149 2 2:=fa_of (n:=0) Tryz.underlying149 z z Tryz.sizeOf3
theorem t13:T1 Tryz.prog 3:=⟨fun w=>by simp [isAgg,run_underlying Tryz.underlying3],Tryz.sizeOf3⟩
theorem fa149_1:FA Tryz.prog 149 1 1:=fa_of (n:=0) Tryz.underlying149 z z Tryz.sizeOf3
theorem fa149_0:FA Tryz.prog 149 0 0:=fa_of (n:=0) Tryz.underlying149 z z Tryz.sizeOf22
theorem t122:T1 Tryz.prog 22:=⟨fun w=>by simp [isAgg,run_underlying Tryz.underlying22],Tryz.sizeOf22⟩
theorem ts49:TS Tryz.prog 49 1:=⟨3,Tryz.underlying49,Tryz.sizeOf3⟩
theorem te49:TE Tryz.prog 49 1 8 [I 0]:=⟨3,Tryz.t3,Tryz.underlying49,Tryz.type3,⟨_,z,z⟩,z,z,z,by decide⟩
theorem bt25:BT Tryz.prog 25 [I 0,I 0,I 0,I 0] #[(0,1),(1,1),(2,1),(3,1)]:=⟨Tryz.zeroValue25,_,Tryz.underlying25,fun w=>by simp [Tryz.sizeOf3]⟩
theorem bt30:BT Tryz.prog 30 [I 0,I 0,I 0,I 0,I 0,I 0,.slice none 0 0,.slice none 0 0,I 0,.slice none 0 0] #[(0,1),(1,4),(5,1),(6,1),(7,1),(8,1),(9,1)]:=⟨Tryz.zeroValue30,_,Tryz.underlying30,fun w=>by simp [Tryz.sizeOf25,Tryz.sizeOf26,Tryz.sizeOf27,Tryz.sizeOf28,Tryz.sizeOf3]⟩
theorem fa30_2:FA Tryz.prog 30 2 5:=fa_of (n:=0) Tryz.underlying30 z z Tryz.sizeOf3
theorem fa30_3:FA Tryz.prog 30 3 6:=fa_of (n:=0) Tryz.underlying30 z z Tryz.sizeOf26
theorem t126:T1 Tryz.prog 26:=⟨fun w=>by simp [isAgg,run_underlying Tryz.underlying26],Tryz.sizeOf26⟩
theorem bt106:BT Tryz.prog 106 [I 0,I 0] #[(0,1),(1,1)]:=⟨Tryz.zeroValue106,_,Tryz.underlying106,fun w=>by simp [Tryz.sizeOf3]⟩
theorem te26:TE Tryz.prog 26 2 16 [I 0,I 0]:=⟨106,Tryz.t106,Tryz.underlying26,Tryz.type106,⟨_,z,z⟩,z,z,z,by decide⟩
theorem fa30_4:FA Tryz.prog 30 4 7:=fa_of (n:=0) Tryz.underlying30 z z Tryz.sizeOf27
theorem t127:T1 Tryz.prog 27:=⟨fun w=>by simp [isAgg,run_underlying Tryz.underlying27],Tryz.sizeOf27⟩
theorem bt65:BT Tryz.prog 65 [I 0,I 0,I 0,I 0,I 0,I 0,I 0] #[(0,1),(1,1),(2,1),(3,1),(4,1),(5,1),(6,1)]:=⟨Tryz.zeroValue65,_,Tryz.underlying65,fun w=>by simp [Tryz.sizeOf3]⟩
theorem te27:TE Tryz.prog 27 7 56 [I 0,I 0,I 0,I 0,I 0,I 0,I 0]:=⟨65,Tryz.t65,Tryz.underlying27,Tryz.type65,⟨_,z,z⟩,z,z,z,by decide⟩
theorem bt72:BT Tryz.prog 72 [I 0,I 0,I 0,I 0,I 0,I 0,I 0] #[(0,1),(1,1),(2,1),(3,1),(4,1),(5,1),(6,1)]:=⟨Tryz.zeroValue72,_,Tryz.underlying72,fun w=>by simp [Tryz.sizeOf3]⟩
theorem fa72_1:FA Tryz.prog 72 1 1:=fa_of (n:=0) Tryz.underlying72 z z Tryz.sizeOf3
theorem fa72_2:FA Tryz.prog 72 2 2:=fa_of (n:=0) Tryz.underlying72 z z Tryz.sizeOf3
theorem fa72_3:FA Tryz.prog 72 3 3:=fa_of (n:=0) Tryz.underlying72 z z Tryz.sizeOf3
theorem fa72_6:FA Tryz.prog 72 6 6:=fa_of (n:=0) Tryz.underlying72 z z Tryz.sizeOf3
theorem fa30_6:FA Tryz.prog 30 6 9:=fa_of (n:=0) Tryz.underlying30 z z Tryz.sizeOf28
theorem t128:T1 Tryz.prog 28:=⟨fun w=>by simp [isAgg,run_underlying Tryz.underlying28],Tryz.sizeOf28⟩
theorem ta72:TA Tryz.prog 72 7:=⟨Tryz.isAgg72,Tryz.sizeOf72⟩
theorem te28:TE Tryz.prog 28 7 56 [I 0,I 0,I 0,I 0,I 0,I 0,I 0]:=⟨72,Tryz.t72,Tryz.underlying28,Tryz.type72,⟨_,z,z⟩,z,z,z,by decide⟩
theorem ta30:TA Tryz.prog 30 10:=⟨Tryz.isAgg30,Tryz.sizeOf30⟩
theorem fa25_0:FA Tryz.prog 25 0 0:=fa_of (n:=0) Tryz.underlying25 z z Tryz.sizeOf3
theorem fa25_1:FA Tryz.prog 25 1 1:=fa_of (n:=0) Tryz.underlying25 z z Tryz.sizeOf3
theorem fa25_2:FA Tryz.prog 25 2 2:=fa_of (n:=0) Tryz.underlying25 z z Tryz.sizeOf3
theorem fa25_3:FA Tryz.prog 25 3 3:=fa_of (n:=0) Tryz.underlying25 z z Tryz.sizeOf3
theorem fa65_0:FA Tryz.prog 65 0 0:=fa_of (n:=0) Tryz.underlying65 z z Tryz.sizeOf3
theorem fa65_1:FA Tryz.prog 65 1 1:=fa_of (n:=0) Tryz.underlying65 z z Tryz.sizeOf3
theorem fa65_2:FA Tryz.prog 65 2 2:=fa_of (n:=0) Tryz.underlying65 z z Tryz.sizeOf3
theorem fa65_3:FA Tryz.prog 65 3 3:=fa_of (n:=0) Tryz.underlying65 z z Tryz.sizeOf3
theorem fa65_4:FA Tryz.prog 65 4 4:=fa_of (n:=0) Tryz.underlying65 z z Tryz.sizeOf3
theorem fa65_5:FA Tryz.prog 65 5 5:=fa_of (n:=0) Tryz.underlying65 z z Tryz.sizeOf3
theorem fa65_6:FA Tryz.prog 65 6 6:=fa_of (n:=0) Tryz.underlying65 z z Tryz.sizeOf3
theorem fa72_0:FA Tryz.prog 72 0 0:=fa_of (n:=0) Tryz.underlying72 z z Tryz.sizeOf3
theorem fa72_4:FA Tryz.prog 72 4 4:=fa_of (n:=0) Tryz.underlying72 z z Tryz.sizeOf3
theorem fa72_5:FA Tryz.prog 72 5 5:=fa_of (n:=0) Tryz.underlying72 z z Tryz.sizeOf3
theorem fa30_0:FA Tryz.prog 30 0 0:=fa_of (n:=0) Tryz.underlying30 z z Tryz.sizeOf3
theorem fa30_1:FA Tryz.prog 30 1 1:=fa_of (n:=3) Tryz.underlying30 z z Tryz.sizeOf25
theorem ta25:TA Tryz.prog 25 4:=⟨Tryz.isAgg25,Tryz.sizeOf25⟩
theorem fa30_5:FA Tryz.prog 30 5 8:=fa_of (n:=0) Tryz.underlying30 z z Tryz.sizeOf3
theorem ts26:TS Tryz.prog 26 2:=⟨106,Tryz.underlying26,Tryz.sizeOf106⟩
theorem fa106_0:FA Tryz.prog 106 0 0:=fa_of (n:=0) Tryz.underlying106 z z Tryz.sizeOf3
theorem fa106_1:FA Tryz.prog 106 1 1:=fa_of (n:=0) Tryz.underlying106 z z Tryz.sizeOf3
theorem ts27:TS Tryz.prog 27 7:=⟨65,Tryz.underlying27,Tryz.sizeOf65⟩
theorem ta65:TA Tryz.prog 65 7:=⟨Tryz.isAgg65,Tryz.sizeOf65⟩
theorem ts28:TS Tryz.prog 28 7:=⟨72,Tryz.underlying28,Tryz.sizeOf72⟩
theorem ta106:TA Tryz.prog 106 2:=⟨Tryz.isAgg106,Tryz.sizeOf106⟩
theorem seq106:SEq Tryz.prog 106 Pair:=seqPair Tryz.underlying106 Tryz.stoodInHeld106 Tryz.eqGuardType106 Tryz.underlying3 z
theorem ts46:TS Tryz.prog 46 1:=⟨49,Tryz.underlying46,Tryz.sizeOf49⟩
theorem t149:T1 Tryz.prog 49:=⟨fun w=>by simp [isAgg,run_underlying Tryz.underlying49],Tryz.sizeOf49⟩
theorem te46:TE Tryz.prog 46 1 24 [.slice none 0 0]:=⟨49,Tryz.t49,Tryz.underlying46,Tryz.type49,⟨_,z,z⟩,z,z,z,by decide⟩
theorem te31:TE Tryz.prog 31 3 40 [I 0,I 0,.slice none 0 0]:=⟨53,Tryz.t53,Tryz.underlying31,Tryz.type53,⟨_,z,z⟩,z,z,z,by decide⟩
theorem bt53:BT Tryz.prog 53 [I 0,I 0,.slice none 0 0] #[(0,1),(1,1),(2,1)]:=⟨Tryz.zeroValue53,_,Tryz.underlying53,fun w=>by simp [Tryz.sizeOf3,Tryz.sizeOf49]⟩
theorem fa53_0:FA Tryz.prog 53 0 0:=fa_of (n:=0) Tryz.underlying53 z z Tryz.sizeOf3
theorem fa53_2:FA Tryz.prog 53 2 2:=fa_of (n:=0) Tryz.underlying53 z z Tryz.sizeOf49
theorem bt58:BT Tryz.prog 58 [I 0,I 0,I 0,I 0] #[(0,1),(1,1),(2,1),(3,1)]:=⟨Tryz.zeroValue58,_,Tryz.underlying58,fun w=>by simp [Tryz.sizeOf3]⟩
theorem ta53:TA Tryz.prog 53 3:=⟨Tryz.isAgg53,Tryz.sizeOf53⟩
theorem ta58:TA Tryz.prog 58 4:=⟨Tryz.isAgg58,Tryz.sizeOf58⟩
theorem fa58_0:FA Tryz.prog 58 0 0:=fa_of (n:=0) Tryz.underlying58 z z Tryz.sizeOf3
theorem fa58_1:FA Tryz.prog 58 1 1:=fa_of (n:=0) Tryz.underlying58 z z Tryz.sizeOf3
theorem fa58_2:FA Tryz.prog 58 2 2:=fa_of (n:=0) Tryz.underlying58 z z Tryz.sizeOf3
theorem fa58_3:FA Tryz.prog 58 3 3:=fa_of (n:=0) Tryz.underlying58 z z Tryz.sizeOf3
theorem ts57:TS Tryz.prog 57 4:=⟨58,Tryz.underlying57,Tryz.sizeOf58⟩
theorem te116:TE Tryz.prog 116 5 56 [.slice none 0 0,I 0,I 0,I 0,I 0]:=⟨127,Tryz.t127,Tryz.underlying116,Tryz.type127,⟨_,z,z⟩,z,z,z,by decide⟩
theorem ts116:TS Tryz.prog 116 5:=⟨127,Tryz.underlying116,Tryz.sizeOf127⟩
theorem fa127_1:FA Tryz.prog 127 1 1:=fa_of (n:=0) Tryz.underlying127 z z Tryz.sizeOf3
theorem fa127_4:FA Tryz.prog 127 4 4:=fa_of (n:=0) Tryz.underlying127 z z Tryz.sizeOf3
theorem bt127:BT Tryz.prog 127 [.slice none 0 0,I 0,I 0,I 0,I 0] #[(0,1),(1,1),(2,1),(3,1),(4,1)]:=⟨Tryz.zeroValue127,_,Tryz.underlying127,fun w=>by simp [Tryz.sizeOf3,Tryz.sizeOf49]⟩
theorem fa127_0:FA Tryz.prog 127 0 0:=fa_of (n:=0) Tryz.underlying127 z z Tryz.sizeOf49
theorem fa127_2:FA Tryz.prog 127 2 2:=fa_of (n:=0) Tryz.underlying127 z z Tryz.sizeOf3
theorem fa127_3:FA Tryz.prog 127 3 3:=fa_of (n:=0) Tryz.underlying127 z z Tryz.sizeOf3
theorem ta127:TA Tryz.prog 127 5:=⟨Tryz.isAgg127,Tryz.sizeOf127⟩
theorem te118:TE Tryz.prog 118 4 48 [.slice none 0 0,I 0,I 0,I 0]:=⟨125,Tryz.t125,Tryz.underlying118,Tryz.type125,⟨_,z,z⟩,z,z,z,by decide⟩
theorem ts118:TS Tryz.prog 118 4:=⟨125,Tryz.underlying118,Tryz.sizeOf125⟩
theorem fa125_1:FA Tryz.prog 125 1 1:=fa_of (n:=0) Tryz.underlying125 z z Tryz.sizeOf3
theorem fa125_3:FA Tryz.prog 125 3 3:=fa_of (n:=0) Tryz.underlying125 z z Tryz.sizeOf3
theorem bt125:BT Tryz.prog 125 [.slice none 0 0,I 0,I 0,I 0] #[(0,1),(1,1),(2,1),(3,1)]:=⟨Tryz.zeroValue125,_,Tryz.underlying125,fun w=>by simp [Tryz.sizeOf3,Tryz.sizeOf49]⟩
theorem fa125_0:FA Tryz.prog 125 0 0:=fa_of (n:=0) Tryz.underlying125 z z Tryz.sizeOf49
theorem fa125_2:FA Tryz.prog 125 2 2:=fa_of (n:=0) Tryz.underlying125 z z Tryz.sizeOf3
theorem ta125:TA Tryz.prog 125 4:=⟨Tryz.isAgg125,Tryz.sizeOf125⟩
theorem te120:TE Tryz.prog 120 3 40 [.slice none 0 0,I 0,I 0]:=⟨123,Tryz.t123,Tryz.underlying120,Tryz.type123,⟨_,z,z⟩,z,z,z,by decide⟩
theorem ts120:TS Tryz.prog 120 3:=⟨123,Tryz.underlying120,Tryz.sizeOf123⟩
theorem fa123_1:FA Tryz.prog 123 1 1:=fa_of (n:=0) Tryz.underlying123 z z Tryz.sizeOf3
theorem fa123_2:FA Tryz.prog 123 2 2:=fa_of (n:=0) Tryz.underlying123 z z Tryz.sizeOf3
theorem bt123:BT Tryz.prog 123 [.slice none 0 0,I 0,I 0] #[(0,1),(1,1),(2,1)]:=⟨Tryz.zeroValue123,_,Tryz.underlying123,fun w=>by simp [Tryz.sizeOf3,Tryz.sizeOf49]⟩
theorem fa123_0:FA Tryz.prog 123 0 0:=fa_of (n:=0) Tryz.underlying123 z z Tryz.sizeOf49
theorem te32:TE Tryz.prog 32 4 32 [I 0,I 0,I 0,I 0]:=⟨41,Tryz.t41,Tryz.underlying32,Tryz.type41,⟨_,z,z⟩,z,z,z,by decide⟩
theorem ta123:TA Tryz.prog 123 3:=⟨Tryz.isAgg123,Tryz.sizeOf123⟩
theorem bt41:BT Tryz.prog 41 [I 0,I 0,I 0,I 0] #[(0,1),(1,1),(2,1),(3,1)]:=⟨Tryz.zeroValue41,_,Tryz.underlying41,fun w=>by simp [Tryz.sizeOf3]⟩
theorem ts32:TS Tryz.prog 32 4:=⟨41,Tryz.underlying32,Tryz.sizeOf41⟩
theorem ta41:TA Tryz.prog 41 4:=⟨Tryz.isAgg41,Tryz.sizeOf41⟩
theorem fa41_0:FA Tryz.prog 41 0 0:=fa_of (n:=0) Tryz.underlying41 z z Tryz.sizeOf3
theorem bt34:BT Tryz.prog 34 [.slice none 0 0,.slice none 0 0] #[(0,1),(1,1)]:=⟨Tryz.zeroValue34,_,Tryz.underlying34,fun w=>by simp [Tryz.sizeOf31,Tryz.sizeOf32]⟩
theorem ta34:TA Tryz.prog 34 2:=⟨Tryz.isAgg34,Tryz.sizeOf34⟩
theorem te57:TE Tryz.prog 57 4 32 [I 0,I 0,I 0,I 0]:=⟨58,Tryz.t58,Tryz.underlying57,Tryz.type58,⟨_,z,z⟩,z,z,z,by decide⟩
theorem fa34_0:FA Tryz.prog 34 0 0:=fa_of (n:=0) Tryz.underlying34 z z Tryz.sizeOf31
theorem t131:T1 Tryz.prog 31:=⟨fun w=>by simp [isAgg,run_underlying Tryz.underlying31],Tryz.sizeOf31⟩
theorem ts31:TS Tryz.prog 31 3:=⟨53,Tryz.underlying31,Tryz.sizeOf53⟩
theorem fa53_1:FA Tryz.prog 53 1 1:=fa_of (n:=0) Tryz.underlying53 z z Tryz.sizeOf3
theorem fa34_1:FA Tryz.prog 34 1 1:=fa_of (n:=0) Tryz.underlying34 z z Tryz.sizeOf32
theorem t132:T1 Tryz.prog 32:=⟨fun w=>by simp [isAgg,run_underlying Tryz.underlying32],Tryz.sizeOf32⟩
theorem fa41_1:FA Tryz.prog 41 1 1:=fa_of (n:=0) Tryz.underlying41 z z Tryz.sizeOf3
theorem fa41_2:FA Tryz.prog 41 2 2:=fa_of (n:=0) Tryz.underlying41 z z Tryz.sizeOf3
theorem fa41_3:FA Tryz.prog 41 3 3:=fa_of (n:=0) Tryz.underlying41 z z Tryz.sizeOf3
theorem t146:T1 Tryz.prog 46:=⟨fun w=>by simp [isAgg,run_underlying Tryz.underlying46],Tryz.sizeOf46⟩
theorem mkRequest {w:World} {x:Request} {F0 F1 F2:List Nat} {v0 v1 v2:Value} (h0:rd w F0 [v0] x.fPairs) (h1:rd w F1 [v1] x.fTypes) (h2:rd w F2 [v2] x.fItems):rd w (F0 ++ (F1 ++ F2)) [I x.fWay,I x.fPallet.fW,I x.fPallet.fD,I x.fPallet.fH,I x.fPallet.fGram,I x.fClasses,v0,v1,I x.fMaster,v2] x:=⟨_,_,_,_,_,_,rfl,rfl,h0,h1,h2⟩
theorem mkCarton {w:World} {x:Carton} {F0:List Nat} {v0:Value} (h0:rd w F0 [v0] x.fUnits):rd w F0 [I x.fType,I x.fGroup,v0] x:=⟨_,_,rfl,rfl,h0⟩
theorem mkShelf {w:World} {x:Shelf} {F0:List Nat} {v0:Value} (h0:rd w F0 [v0] x.fList):rd w F0 [v0,I x.fW,I x.fD,I x.fH,I x.fGram] x:=⟨_,_,rfl,rfl,h0⟩
theorem mkLayer {w:World} {x:Layer} {F0:List Nat} {v0:Value} (h0:rd w F0 [v0] x.fShelves):rd w F0 [v0,I x.fD,I x.fH,I x.fGram] x:=⟨_,_,rfl,rfl,h0⟩
theorem mkPlan {w:World} {x:Plan} {F0 F1:List Nat} {v0 v1:Value} (h0:rd w F0 [v0] x.fCartons) (h1:rd w F1 [v1] x.fSpots):rd w (F0 ++ F1) [v0,v1] x:=⟨_,_,_,_,rfl,rfl,h0,h1⟩
abbrev cR (x:Request) (a b c:Value):List Value:=[I x.fWay,I x.fPallet.fW,I x.fPallet.fD,I x.fPallet.fH,I x.fPallet.fGram,I x.fClasses,a,b,I x.fMaster,c]
end Go.Proofs.YtpcmapfabndggaaGreat
