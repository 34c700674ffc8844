/- FnExactVerify: facts on types of the functions that it reaches. Printed by gen.py. -/
import Derived.Test.YtpcmapfabndggaaGreatDoorExactVerifyBD
import Derived.Test.YtpcmapfabndggaaGreatDoorS9
import Derived.Test.YtpcmapfabndggaaGreatDoorS12
import Derived.Test.YtpcmapfabndggaaGreatDoorS15
import Derived.Test.YtpcmapfabndggaaGreatDoorS17
import Derived.Test.YtpcmapfabndggaaGreatDoorS20
import Derived.Test.YtpcmapfabndggaaGreatDoorProg
import Derived.Test.YtpcmapfabndggaaGreatDoorS22
import Derived.Test.YtpcmapfabndggaaGreatDoorS23
import Derived.Test.YtpcmapfabndggaaGreatDoorShelf
set_option maxRecDepth 20000
set_option linter.unusedSimpArgs false
set_option linter.unusedVariables false
set_option linter.unnecessarySimpa false
namespace Go.Proofs.YtpcmapfabndggaaGreatDoor
open Go Go.RowKit
open Enc (rd ow)
open Arg (argv)
open Ret (retv)
open Go.Proofs.Tryz

theorem mixo:Tryz.prog.follows .mixedOrders = true:=by kernel_rfl
theorem te133:TE Tryz.prog 133 1 16 [.string ⟨#[]⟩]:=⟨9,Tryz.t9,Tryz.underlying133,Tryz.type9,⟨_,z,z⟩,z,z,z,by decide⟩
theorem te22:TE Tryz.prog 22 1 1 [.int .u8 0]:=⟨5,Tryz.t5,Tryz.underlying22,Tryz.type5,⟨_,z,z⟩,z,z,z,by decide⟩
theorem te41:TE Tryz.prog 41 1 8 [I 0]:=⟨3,Tryz.t3,Tryz.underlying41,Tryz.type3,⟨_,z,z⟩,z,z,z,by decide⟩
theorem ts133:TS Tryz.prog 133 1:=⟨9,Tryz.underlying133,Tryz.sizeOf9⟩
theorem t19:T1 Tryz.prog 9:=⟨fun w=>by simp [isAgg,run_underlying Tryz.underlying9],Tryz.sizeOf9⟩
theorem bt30:BT Tryz.prog 30 [I 0,I 0,I 0,I 0,I 0,I 0,.slice none 0 0,.slice none 0 0,I 0,.slice none 0 0] #[(0,1),(1,4),(5,1),(6,1),(7,1),(8,1),(9,1)]:=⟨Tryz.zeroValue30,_,Tryz.underlying30,fun w=>by simp [Tryz.sizeOf25,Tryz.sizeOf26,Tryz.sizeOf27,Tryz.sizeOf28,Tryz.sizeOf3]⟩
theorem ta30:TA Tryz.prog 30 10:=⟨Tryz.isAgg30,Tryz.sizeOf30⟩
theorem fa30_0:FA Tryz.prog 30 0 0:=fa_of (n:=0) Tryz.underlying30 z z Tryz.sizeOf3
theorem ts41:TS Tryz.prog 41 1:=⟨3,Tryz.underlying41,Tryz.sizeOf3⟩
theorem t13:T1 Tryz.prog 3:=⟨fun w=>by simp [isAgg,run_underlying Tryz.underlying3],Tryz.sizeOf3⟩
theorem bt25:BT Tryz.prog 25 [I 0,I 0,I 0,I 0] #[(0,1),(1,1),(2,1),(3,1)]:=⟨Tryz.zeroValue25,_,Tryz.underlying25,fun w=>by simp [Tryz.sizeOf3]⟩
theorem fa30_1:FA Tryz.prog 30 1 1:=fa_of (n:=3) Tryz.underlying30 z z Tryz.sizeOf25
theorem fa30_2:FA Tryz.prog 30 2 5:=fa_of (n:=0) Tryz.underlying30 z z Tryz.sizeOf3
theorem fa30_3:FA Tryz.prog 30 3 6:=fa_of (n:=0) Tryz.underlying30 z z Tryz.sizeOf26
theorem t126:T1 Tryz.prog 26:=⟨fun w=>by simp [isAgg,run_underlying Tryz.underlying26],Tryz.sizeOf26⟩
theorem bt138:BT Tryz.prog 138 [I 0,I 0] #[(0,1),(1,1)]:=⟨Tryz.zeroValue138,_,Tryz.underlying138,fun w=>by simp [Tryz.sizeOf3]⟩
theorem te26:TE Tryz.prog 26 2 16 [I 0,I 0]:=⟨138,Tryz.t138,Tryz.underlying26,Tryz.type138,⟨_,z,z⟩,z,z,z,by decide⟩
theorem fa30_4:FA Tryz.prog 30 4 7:=fa_of (n:=0) Tryz.underlying30 z z Tryz.sizeOf27
theorem t127:T1 Tryz.prog 27:=⟨fun w=>by simp [isAgg,run_underlying Tryz.underlying27],Tryz.sizeOf27⟩
theorem bt90:BT Tryz.prog 90 [I 0,I 0,I 0,I 0,I 0,I 0,I 0] #[(0,1),(1,1),(2,1),(3,1),(4,1),(5,1),(6,1)]:=⟨Tryz.zeroValue90,_,Tryz.underlying90,fun w=>by simp [Tryz.sizeOf3]⟩
theorem te27:TE Tryz.prog 27 7 56 [I 0,I 0,I 0,I 0,I 0,I 0,I 0]:=⟨90,Tryz.t90,Tryz.underlying27,Tryz.type90,⟨_,z,z⟩,z,z,z,by decide⟩
theorem fa30_5:FA Tryz.prog 30 5 8:=fa_of (n:=0) Tryz.underlying30 z z Tryz.sizeOf3
theorem fa30_6:FA Tryz.prog 30 6 9:=fa_of (n:=0) Tryz.underlying30 z z Tryz.sizeOf28
theorem t128:T1 Tryz.prog 28:=⟨fun w=>by simp [isAgg,run_underlying Tryz.underlying28],Tryz.sizeOf28⟩
theorem bt113:BT Tryz.prog 113 [I 0,I 0,I 0,I 0,I 0,I 0,I 0] #[(0,1),(1,1),(2,1),(3,1),(4,1),(5,1),(6,1)]:=⟨Tryz.zeroValue113,_,Tryz.underlying113,fun w=>by simp [Tryz.sizeOf3]⟩
theorem te28:TE Tryz.prog 28 7 56 [I 0,I 0,I 0,I 0,I 0,I 0,I 0]:=⟨113,Tryz.t113,Tryz.underlying28,Tryz.type113,⟨_,z,z⟩,z,z,z,by decide⟩
theorem fa25_0:FA Tryz.prog 25 0 0:=fa_of (n:=0) Tryz.underlying25 z z Tryz.sizeOf3
theorem fa25_1:FA Tryz.prog 25 1 1:=fa_of (n:=0) Tryz.underlying25 z z Tryz.sizeOf3
theorem fa25_2:FA Tryz.prog 25 2 2:=fa_of (n:=0) Tryz.underlying25 z z Tryz.sizeOf3
theorem fa25_3:FA Tryz.prog 25 3 3:=fa_of (n:=0) Tryz.underlying25 z z Tryz.sizeOf3
theorem fa90_0:FA Tryz.prog 90 0 0:=fa_of (n:=0) Tryz.underlying90 z z Tryz.sizeOf3
theorem fa90_1:FA Tryz.prog 90 1 1:=fa_of (n:=0) Tryz.underlying90 z z Tryz.sizeOf3
theorem fa90_2:FA Tryz.prog 90 2 2:=fa_of (n:=0) Tryz.underlying90 z z Tryz.sizeOf3
theorem fa90_3:FA Tryz.prog 90 3 3:=fa_of (n:=0) Tryz.underlying90 z z Tryz.sizeOf3
theorem fa90_4:FA Tryz.prog 90 4 4:=fa_of (n:=0) Tryz.underlying90 z z Tryz.sizeOf3
theorem fa90_5:FA Tryz.prog 90 5 5:=fa_of (n:=0) Tryz.underlying90 z z Tryz.sizeOf3
theorem fa90_6:FA Tryz.prog 90 6 6:=fa_of (n:=0) Tryz.underlying90 z z Tryz.sizeOf3
theorem fa113_0:FA Tryz.prog 113 0 0:=fa_of (n:=0) Tryz.underlying113 z z Tryz.sizeOf3
theorem fa113_1:FA Tryz.prog 113 1 1:=fa_of (n:=0) Tryz.underlying113 z z Tryz.sizeOf3
theorem fa113_2:FA Tryz.prog 113 2 2:=fa_of (n:=0) Tryz.underlying113 z z Tryz.sizeOf3
theorem fa113_3:FA Tryz.prog 113 3 3:=fa_of (n:=0) Tryz.underlying113 z z Tryz.sizeOf3
theorem fa113_4:FA Tryz.prog 113 4 4:=fa_of (n:=0) Tryz.underlying113 z z Tryz.sizeOf3
theorem fa113_5:FA Tryz.prog 113 5 5:=fa_of (n:=0) Tryz.underlying113 z z Tryz.sizeOf3
theorem fa113_6:FA Tryz.prog 113 6 6:=fa_of (n:=0) Tryz.underlying113 z z Tryz.sizeOf3
theorem ta25:TA Tryz.prog 25 4:=⟨Tryz.isAgg25,Tryz.sizeOf25⟩
theorem ts26:TS Tryz.prog 26 2:=⟨138,Tryz.underlying26,Tryz.sizeOf138⟩
theorem fa138_0:FA Tryz.prog 138 0 0:=fa_of (n:=0) Tryz.underlying138 z z Tryz.sizeOf3
theorem fa138_1:FA Tryz.prog 138 1 1:=fa_of (n:=0) Tryz.underlying138 z z Tryz.sizeOf3
theorem ts27:TS Tryz.prog 27 7:=⟨90,Tryz.underlying27,Tryz.sizeOf90⟩
theorem ta90:TA Tryz.prog 90 7:=⟨Tryz.isAgg90,Tryz.sizeOf90⟩
theorem ts28:TS Tryz.prog 28 7:=⟨113,Tryz.underlying28,Tryz.sizeOf113⟩
theorem ta113:TA Tryz.prog 113 7:=⟨Tryz.isAgg113,Tryz.sizeOf113⟩
theorem fa56_0:FA Tryz.prog 56 0 0:=fa_of (n:=0) Tryz.underlying56 z z Tryz.sizeOf3
theorem fa56_1:FA Tryz.prog 56 1 1:=fa_of (n:=0) Tryz.underlying56 z z Tryz.sizeOf3
theorem fa56_2:FA Tryz.prog 56 2 2:=fa_of (n:=0) Tryz.underlying56 z z Tryz.sizeOf41
theorem t141:T1 Tryz.prog 41:=⟨fun w=>by simp [isAgg,run_underlying Tryz.underlying41],Tryz.sizeOf41⟩
theorem fa35_0:FA Tryz.prog 35 0 0:=fa_of (n:=0) Tryz.underlying35 z z Tryz.sizeOf32
theorem t132:T1 Tryz.prog 32:=⟨fun w=>by simp [isAgg,run_underlying Tryz.underlying32],Tryz.sizeOf32⟩
theorem fa35_1:FA Tryz.prog 35 1 1:=fa_of (n:=0) Tryz.underlying35 z z Tryz.sizeOf33
theorem t133:T1 Tryz.prog 33:=⟨fun w=>by simp [isAgg,run_underlying Tryz.underlying33],Tryz.sizeOf33⟩
theorem ts33:TS Tryz.prog 33 4:=⟨62,Tryz.underlying33,Tryz.sizeOf62⟩
theorem ta62:TA Tryz.prog 62 4:=⟨Tryz.isAgg62,Tryz.sizeOf62⟩
theorem ts32:TS Tryz.prog 32 3:=⟨56,Tryz.underlying32,Tryz.sizeOf56⟩
theorem ta56:TA Tryz.prog 56 3:=⟨Tryz.isAgg56,Tryz.sizeOf56⟩
theorem fa62_0:FA Tryz.prog 62 0 0:=fa_of (n:=0) Tryz.underlying62 z z Tryz.sizeOf3
theorem fa62_1:FA Tryz.prog 62 1 1:=fa_of (n:=0) Tryz.underlying62 z z Tryz.sizeOf3
theorem fa62_2:FA Tryz.prog 62 2 2:=fa_of (n:=0) Tryz.underlying62 z z Tryz.sizeOf3
theorem fa62_3:FA Tryz.prog 62 3 3:=fa_of (n:=0) Tryz.underlying62 z z Tryz.sizeOf3
theorem bt56:BT Tryz.prog 56 [I 0,I 0,.slice none 0 0] #[(0,1),(1,1),(2,1)]:=⟨Tryz.zeroValue56,_,Tryz.underlying56,fun w=>by simp [Tryz.sizeOf3,Tryz.sizeOf41]⟩
theorem bt62:BT Tryz.prog 62 [I 0,I 0,I 0,I 0] #[(0,1),(1,1),(2,1),(3,1)]:=⟨Tryz.zeroValue62,_,Tryz.underlying62,fun w=>by simp [Tryz.sizeOf3]⟩
theorem te32:TE Tryz.prog 32 3 40 [I 0,I 0,.slice none 0 0]:=⟨56,Tryz.t56,Tryz.underlying32,Tryz.type56,⟨_,z,z⟩,z,z,z,by decide⟩
theorem te33:TE Tryz.prog 33 4 32 [I 0,I 0,I 0,I 0]:=⟨62,Tryz.t62,Tryz.underlying33,Tryz.type62,⟨_,z,z⟩,z,z,z,by decide⟩
theorem bt35:BT Tryz.prog 35 [.slice none 0 0,.slice none 0 0] #[(0,1),(1,1)]:=⟨Tryz.zeroValue35,_,Tryz.underlying35,fun w=>by simp [Tryz.sizeOf32,Tryz.sizeOf33]⟩
theorem ta35:TA Tryz.prog 35 2:=⟨Tryz.isAgg35,Tryz.sizeOf35⟩
theorem bt203:BT Tryz.prog 203 [I 0,I 0] #[(0,1),(1,1)]:=⟨Tryz.zeroValue203,_,Tryz.underlying203,fun w=>by simp [Tryz.sizeOf3]⟩
theorem fa203_0:FA Tryz.prog 203 0 0:=fa_of (n:=0) Tryz.underlying203 z z Tryz.sizeOf3
theorem fa203_1:FA Tryz.prog 203 1 1:=fa_of (n:=0) Tryz.underlying203 z z Tryz.sizeOf3
theorem ta203:TA Tryz.prog 203 2:=⟨Tryz.isAgg203,Tryz.sizeOf203⟩
theorem te52:TE Tryz.prog 52 1 24 [.slice none 0 0]:=⟨41,Tryz.t41,Tryz.underlying52,Tryz.type41,⟨_,z,z⟩,z,z,z,by decide⟩
theorem ts52:TS Tryz.prog 52 1:=⟨41,Tryz.underlying52,Tryz.sizeOf41⟩
theorem bt57:BT Tryz.prog 57 [I 0,I 0,I 0,I 0] #[(0,1),(1,1),(2,1),(3,1)]:=⟨Tryz.zeroValue57,_,Tryz.underlying57,fun w=>by simp [Tryz.sizeOf3]⟩
theorem ta57:TA Tryz.prog 57 4:=⟨Tryz.isAgg57,Tryz.sizeOf57⟩
theorem fa57_0:FA Tryz.prog 57 0 0:=fa_of (n:=0) Tryz.underlying57 z z Tryz.sizeOf3
theorem fa57_1:FA Tryz.prog 57 1 1:=fa_of (n:=0) Tryz.underlying57 z z Tryz.sizeOf3
theorem fa57_2:FA Tryz.prog 57 2 2:=fa_of (n:=0) Tryz.underlying57 z z Tryz.sizeOf3
theorem ta138:TA Tryz.prog 138 2:=⟨Tryz.isAgg138,Tryz.sizeOf138⟩
theorem seq138:SEq Tryz.prog 138 Pair:=seqPair Tryz.underlying138 Tryz.stoodInHeld138 Tryz.eqGuardType138 Tryz.underlying3 z
theorem t152:T1 Tryz.prog 52:=⟨fun w=>by simp [isAgg,run_underlying Tryz.underlying52],Tryz.sizeOf52⟩
theorem te54:TE Tryz.prog 54 4 32 [I 0,I 0,I 0,I 0]:=⟨57,Tryz.t57,Tryz.underlying54,Tryz.type57,⟨_,z,z⟩,z,z,z,by decide⟩
theorem ts54:TS Tryz.prog 54 4:=⟨57,Tryz.underlying54,Tryz.sizeOf57⟩
theorem mkRequest {w:World} {x:Request} {F0 F1 F2:List Nat} {v0 v1 v2:Value} (h0:rd w F0 [v0] x.fPairs) (h1:rd w F1 [v1] x.fTypes) (h2:rd w F2 [v2] x.fItems):rd w (F0 ++ (F1 ++ F2)) [I x.fWay,I x.fPallet.fW,I x.fPallet.fD,I x.fPallet.fH,I x.fPallet.fGram,I x.fClasses,v0,v1,I x.fMaster,v2] x:=⟨_,_,_,_,_,_,rfl,rfl,h0,h1,h2⟩
theorem mkCarton {w:World} {x:Carton} {F0:List Nat} {v0:Value} (h0:rd w F0 [v0] x.fUnits):rd w F0 [I x.fType,I x.fGroup,v0] x:=⟨_,_,rfl,rfl,h0⟩
theorem mkPlan {w:World} {x:Plan} {F0 F1:List Nat} {v0 v1:Value} (h0:rd w F0 [v0] x.fCartons) (h1:rd w F1 [v1] x.fSpots):rd w (F0 ++ F1) [v0,v1] x:=⟨_,_,_,_,rfl,rfl,h0,h1⟩
abbrev cR (x:Request) (a b c:Value):List Value:=[I x.fWay,I x.fPallet.fW,I x.fPallet.fD,I x.fPallet.fH,I x.fPallet.fGram,I x.fClasses,a,b,I x.fMaster,c]
end Go.Proofs.YtpcmapfabndggaaGreatDoor
