/- FnTexts: facts on types of the functions that it reaches. Printed by gen.py. -/
import Derived.Test.YtpcmapfabndggabGreatDoorTextsBD
import Derived.Test.YtpcmapfabndggabGreatDoorS9
import Derived.Test.YtpcmapfabndggabGreatDoorS12
import Derived.Test.YtpcmapfabndggabGreatDoorS15
import Derived.Test.YtpcmapfabndggabGreatDoorS17
import Derived.Test.YtpcmapfabndggabGreatDoorS20
import Derived.Test.YtpcmapfabndggabGreatDoorProg
import Derived.Test.YtpcmapfabndggabGreatDoorS22
import Derived.Test.YtpcmapfabndggabGreatDoorS19
import Derived.Test.YtpcmapfabndggabGreatDoorS23
import Derived.Test.YtpcmapfabndggabGreatDoorShelf
set_option maxRecDepth 20000
set_option linter.unusedSimpArgs false
set_option linter.unusedVariables false
set_option linter.unnecessarySimpa false
namespace Go.Proofs.YtpcmapfabndggabGreatDoor
open Go Go.RowKit
open Enc (rd ow)
open Arg (argv)
open Ret (retv)
open Go.Proofs.Tryz

theorem mixo:Tryz.prog.follows .mixedOrders = true:=by kernel_rfl
theorem ts24:TS Tryz.prog 24 1:=⟨5,Tryz.underlying24,Tryz.sizeOf5⟩
theorem t15:T1 Tryz.prog 5:=⟨fun w=>by simp [isAgg,run_underlying Tryz.underlying5],Tryz.sizeOf5⟩
theorem bt83:BT Tryz.prog 83 [.slice none 0 0,I 0,I 0] #[(0,1),(1,1),(2,1)]:=⟨Tryz.zeroValue83,_,Tryz.underlying83,fun w=>by simp [Tryz.sizeOf24,Tryz.sizeOf3]⟩
theorem fa83_2:FA Tryz.prog 83 2 2:=fa_of (n:=0) Tryz.underlying83 z z Tryz.sizeOf3
theorem t13:T1 Tryz.prog 3:=⟨fun w=>by simp [isAgg,run_underlying Tryz.underlying3],Tryz.sizeOf3⟩
theorem fa83_1:FA Tryz.prog 83 1 1:=fa_of (n:=0) Tryz.underlying83 z z Tryz.sizeOf3
theorem fa83_0:FA Tryz.prog 83 0 0:=fa_of (n:=0) Tryz.underlying83 z z Tryz.sizeOf24
theorem t124:T1 Tryz.prog 24:=⟨fun w=>by simp [isAgg,run_underlying Tryz.underlying24],Tryz.sizeOf24⟩
theorem ts37:TS Tryz.prog 37 1:=⟨3,Tryz.underlying37,Tryz.sizeOf3⟩
theorem te37:TE Tryz.prog 37 1 8 [I 0]:=⟨3,Tryz.t3,Tryz.underlying37,Tryz.type3,⟨_,z,z⟩,z,z,z,by decide⟩
theorem bt48:BT Tryz.prog 48 [I 0,I 0,I 0,I 0] #[(0,1),(1,1),(2,1),(3,1)]:=⟨Tryz.zeroValue48,_,Tryz.underlying48,fun w=>by simp [Tryz.sizeOf3]⟩
theorem bt53:BT Tryz.prog 53 [I 0,I 0,I 0,I 0,I 0,I 0,.slice none 0 0,.slice none 0 0,I 0,.slice none 0 0] #[(0,1),(1,4),(5,1),(6,1),(7,1),(8,1),(9,1)]:=⟨Tryz.zeroValue53,_,Tryz.underlying53,fun w=>by simp [Tryz.sizeOf3,Tryz.sizeOf48,Tryz.sizeOf49,Tryz.sizeOf50,Tryz.sizeOf51]⟩
theorem fa53_2:FA Tryz.prog 53 2 5:=fa_of (n:=0) Tryz.underlying53 z z Tryz.sizeOf3
theorem fa53_3:FA Tryz.prog 53 3 6:=fa_of (n:=0) Tryz.underlying53 z z Tryz.sizeOf49
theorem t149:T1 Tryz.prog 49:=⟨fun w=>by simp [isAgg,run_underlying Tryz.underlying49],Tryz.sizeOf49⟩
theorem bt87:BT Tryz.prog 87 [I 0,I 0] #[(0,1),(1,1)]:=⟨Tryz.zeroValue87,_,Tryz.underlying87,fun w=>by simp [Tryz.sizeOf3]⟩
theorem te49:TE Tryz.prog 49 2 16 [I 0,I 0]:=⟨87,Tryz.t87,Tryz.underlying49,Tryz.type87,⟨_,z,z⟩,z,z,z,by decide⟩
theorem fa53_4:FA Tryz.prog 53 4 7:=fa_of (n:=0) Tryz.underlying53 z z Tryz.sizeOf50
theorem t150:T1 Tryz.prog 50:=⟨fun w=>by simp [isAgg,run_underlying Tryz.underlying50],Tryz.sizeOf50⟩
theorem bt89:BT Tryz.prog 89 [I 0,I 0,I 0,I 0,I 0,I 0,I 0] #[(0,1),(1,1),(2,1),(3,1),(4,1),(5,1),(6,1)]:=⟨Tryz.zeroValue89,_,Tryz.underlying89,fun w=>by simp [Tryz.sizeOf3]⟩
theorem te50:TE Tryz.prog 50 7 56 [I 0,I 0,I 0,I 0,I 0,I 0,I 0]:=⟨89,Tryz.t89,Tryz.underlying50,Tryz.type89,⟨_,z,z⟩,z,z,z,by decide⟩
theorem bt91:BT Tryz.prog 91 [I 0,I 0,I 0,I 0,I 0,I 0,I 0] #[(0,1),(1,1),(2,1),(3,1),(4,1),(5,1),(6,1)]:=⟨Tryz.zeroValue91,_,Tryz.underlying91,fun w=>by simp [Tryz.sizeOf3]⟩
theorem fa91_1:FA Tryz.prog 91 1 1:=fa_of (n:=0) Tryz.underlying91 z z Tryz.sizeOf3
theorem fa91_2:FA Tryz.prog 91 2 2:=fa_of (n:=0) Tryz.underlying91 z z Tryz.sizeOf3
theorem fa91_3:FA Tryz.prog 91 3 3:=fa_of (n:=0) Tryz.underlying91 z z Tryz.sizeOf3
theorem fa91_6:FA Tryz.prog 91 6 6:=fa_of (n:=0) Tryz.underlying91 z z Tryz.sizeOf3
theorem fa53_6:FA Tryz.prog 53 6 9:=fa_of (n:=0) Tryz.underlying53 z z Tryz.sizeOf51
theorem t151:T1 Tryz.prog 51:=⟨fun w=>by simp [isAgg,run_underlying Tryz.underlying51],Tryz.sizeOf51⟩
theorem ta91:TA Tryz.prog 91 7:=⟨Tryz.isAgg91,Tryz.sizeOf91⟩
theorem te51:TE Tryz.prog 51 7 56 [I 0,I 0,I 0,I 0,I 0,I 0,I 0]:=⟨91,Tryz.t91,Tryz.underlying51,Tryz.type91,⟨_,z,z⟩,z,z,z,by decide⟩
theorem ta53:TA Tryz.prog 53 10:=⟨Tryz.isAgg53,Tryz.sizeOf53⟩
theorem fa48_0:FA Tryz.prog 48 0 0:=fa_of (n:=0) Tryz.underlying48 z z Tryz.sizeOf3
theorem fa48_1:FA Tryz.prog 48 1 1:=fa_of (n:=0) Tryz.underlying48 z z Tryz.sizeOf3
theorem fa48_2:FA Tryz.prog 48 2 2:=fa_of (n:=0) Tryz.underlying48 z z Tryz.sizeOf3
theorem fa48_3:FA Tryz.prog 48 3 3:=fa_of (n:=0) Tryz.underlying48 z z Tryz.sizeOf3
theorem fa89_0:FA Tryz.prog 89 0 0:=fa_of (n:=0) Tryz.underlying89 z z Tryz.sizeOf3
theorem fa89_1:FA Tryz.prog 89 1 1:=fa_of (n:=0) Tryz.underlying89 z z Tryz.sizeOf3
theorem fa89_2:FA Tryz.prog 89 2 2:=fa_of (n:=0) Tryz.underlying89 z z Tryz.sizeOf3
theorem fa89_3:FA Tryz.prog 89 3 3:=fa_of (n:=0) Tryz.underlying89 z z Tryz.sizeOf3
theorem fa89_4:FA Tryz.prog 89 4 4:=fa_of (n:=0) Tryz.underlying89 z z Tryz.sizeOf3
theorem fa89_5:FA Tryz.prog 89 5 5:=fa_of (n:=0) Tryz.underlying89 z z Tryz.sizeOf3
theorem fa89_6:FA Tryz.prog 89 6 6:=fa_of (n:=0) Tryz.underlying89 z z Tryz.sizeOf3
theorem fa91_0:FA Tryz.prog 91 0 0:=fa_of (n:=0) Tryz.underlying91 z z Tryz.sizeOf3
theorem fa91_4:FA Tryz.prog 91 4 4:=fa_of (n:=0) Tryz.underlying91 z z Tryz.sizeOf3
theorem fa91_5:FA Tryz.prog 91 5 5:=fa_of (n:=0) Tryz.underlying91 z z Tryz.sizeOf3
theorem fa53_0:FA Tryz.prog 53 0 0:=fa_of (n:=0) Tryz.underlying53 z z Tryz.sizeOf3
theorem fa53_1:FA Tryz.prog 53 1 1:=fa_of (n:=3) Tryz.underlying53 z z Tryz.sizeOf48
theorem ta48:TA Tryz.prog 48 4:=⟨Tryz.isAgg48,Tryz.sizeOf48⟩
theorem fa53_5:FA Tryz.prog 53 5 8:=fa_of (n:=0) Tryz.underlying53 z z Tryz.sizeOf3
theorem ts49:TS Tryz.prog 49 2:=⟨87,Tryz.underlying49,Tryz.sizeOf87⟩
theorem fa87_0:FA Tryz.prog 87 0 0:=fa_of (n:=0) Tryz.underlying87 z z Tryz.sizeOf3
theorem fa87_1:FA Tryz.prog 87 1 1:=fa_of (n:=0) Tryz.underlying87 z z Tryz.sizeOf3
theorem ts50:TS Tryz.prog 50 7:=⟨89,Tryz.underlying50,Tryz.sizeOf89⟩
theorem ta89:TA Tryz.prog 89 7:=⟨Tryz.isAgg89,Tryz.sizeOf89⟩
theorem ts51:TS Tryz.prog 51 7:=⟨91,Tryz.underlying51,Tryz.sizeOf91⟩
theorem te93:TE Tryz.prog 93 1 24 [.slice none 0 0]:=⟨37,Tryz.t37,Tryz.underlying93,Tryz.type37,⟨_,z,z⟩,z,z,z,by decide⟩
theorem ts93:TS Tryz.prog 93 1:=⟨37,Tryz.underlying93,Tryz.sizeOf37⟩
theorem t137:T1 Tryz.prog 37:=⟨fun w=>by simp [isAgg,run_underlying Tryz.underlying37],Tryz.sizeOf37⟩
theorem bt180:BT Tryz.prog 180 [I 0,I 0] #[(0,1),(1,1)]:=⟨Tryz.zeroValue180,_,Tryz.underlying180,fun w=>by simp [Tryz.sizeOf3]⟩
theorem fa180_0:FA Tryz.prog 180 0 0:=fa_of (n:=0) Tryz.underlying180 z z Tryz.sizeOf3
theorem fa180_1:FA Tryz.prog 180 1 1:=fa_of (n:=0) Tryz.underlying180 z z Tryz.sizeOf3
theorem ta180:TA Tryz.prog 180 2:=⟨Tryz.isAgg180,Tryz.sizeOf180⟩
theorem fd180_0:FD Tryz.prog 180 0 0 1 false:=⟨_,_,Tryz.underlying180,z,z,(fun w=>by simp [isAgg,run_underlying Tryz.underlying3]),Tryz.sizeOf3⟩
theorem te26:TE Tryz.prog 26 3 40 [I 0,I 0,.slice none 0 0]:=⟨39,Tryz.t39,Tryz.underlying26,Tryz.type39,⟨_,z,z⟩,z,z,z,by decide⟩
theorem bt39:BT Tryz.prog 39 [I 0,I 0,.slice none 0 0] #[(0,1),(1,1),(2,1)]:=⟨Tryz.zeroValue39,_,Tryz.underlying39,fun w=>by simp [Tryz.sizeOf3,Tryz.sizeOf37]⟩
theorem fa39_0:FA Tryz.prog 39 0 0:=fa_of (n:=0) Tryz.underlying39 z z Tryz.sizeOf3
theorem fa39_2:FA Tryz.prog 39 2 2:=fa_of (n:=0) Tryz.underlying39 z z Tryz.sizeOf37
theorem bt96:BT Tryz.prog 96 [I 0,I 0,I 0,I 0] #[(0,1),(1,1),(2,1),(3,1)]:=⟨Tryz.zeroValue96,_,Tryz.underlying96,fun w=>by simp [Tryz.sizeOf3]⟩
theorem ta39:TA Tryz.prog 39 3:=⟨Tryz.isAgg39,Tryz.sizeOf39⟩
theorem ta96:TA Tryz.prog 96 4:=⟨Tryz.isAgg96,Tryz.sizeOf96⟩
theorem ts95:TS Tryz.prog 95 4:=⟨96,Tryz.underlying95,Tryz.sizeOf96⟩
theorem fa96_0:FA Tryz.prog 96 0 0:=fa_of (n:=0) Tryz.underlying96 z z Tryz.sizeOf3
theorem fa96_1:FA Tryz.prog 96 1 1:=fa_of (n:=0) Tryz.underlying96 z z Tryz.sizeOf3
theorem fa96_2:FA Tryz.prog 96 2 2:=fa_of (n:=0) Tryz.underlying96 z z Tryz.sizeOf3
theorem fa96_3:FA Tryz.prog 96 3 3:=fa_of (n:=0) Tryz.underlying96 z z Tryz.sizeOf3
theorem fa135_0:FA Tryz.prog 135 0 0:=fa_of (n:=0) Tryz.underlying135 z z Tryz.sizeOf37
theorem fa135_1:FA Tryz.prog 135 1 1:=fa_of (n:=0) Tryz.underlying135 z z Tryz.sizeOf3
theorem fa135_2:FA Tryz.prog 135 2 2:=fa_of (n:=0) Tryz.underlying135 z z Tryz.sizeOf3
theorem fa135_3:FA Tryz.prog 135 3 3:=fa_of (n:=0) Tryz.underlying135 z z Tryz.sizeOf3
theorem fa135_4:FA Tryz.prog 135 4 4:=fa_of (n:=0) Tryz.underlying135 z z Tryz.sizeOf3
theorem bt135:BT Tryz.prog 135 [.slice none 0 0,I 0,I 0,I 0,I 0] #[(0,1),(1,1),(2,1),(3,1),(4,1)]:=⟨Tryz.zeroValue135,_,Tryz.underlying135,fun w=>by simp [Tryz.sizeOf3,Tryz.sizeOf37]⟩
theorem ta135:TA Tryz.prog 135 5:=⟨Tryz.isAgg135,Tryz.sizeOf135⟩
theorem te124:TE Tryz.prog 124 5 56 [.slice none 0 0,I 0,I 0,I 0,I 0]:=⟨135,Tryz.t135,Tryz.underlying124,Tryz.type135,⟨_,z,z⟩,z,z,z,by decide⟩
theorem ts124:TS Tryz.prog 124 5:=⟨135,Tryz.underlying124,Tryz.sizeOf135⟩
theorem te126:TE Tryz.prog 126 4 48 [.slice none 0 0,I 0,I 0,I 0]:=⟨133,Tryz.t133,Tryz.underlying126,Tryz.type133,⟨_,z,z⟩,z,z,z,by decide⟩
theorem ts126:TS Tryz.prog 126 4:=⟨133,Tryz.underlying126,Tryz.sizeOf133⟩
theorem fa133_1:FA Tryz.prog 133 1 1:=fa_of (n:=0) Tryz.underlying133 z z Tryz.sizeOf3
theorem fa133_3:FA Tryz.prog 133 3 3:=fa_of (n:=0) Tryz.underlying133 z z Tryz.sizeOf3
theorem bt133:BT Tryz.prog 133 [.slice none 0 0,I 0,I 0,I 0] #[(0,1),(1,1),(2,1),(3,1)]:=⟨Tryz.zeroValue133,_,Tryz.underlying133,fun w=>by simp [Tryz.sizeOf3,Tryz.sizeOf37]⟩
theorem ta133:TA Tryz.prog 133 4:=⟨Tryz.isAgg133,Tryz.sizeOf133⟩
theorem fa133_0:FA Tryz.prog 133 0 0:=fa_of (n:=0) Tryz.underlying133 z z Tryz.sizeOf37
theorem fa133_2:FA Tryz.prog 133 2 2:=fa_of (n:=0) Tryz.underlying133 z z Tryz.sizeOf3
theorem te128:TE Tryz.prog 128 3 40 [.slice none 0 0,I 0,I 0]:=⟨131,Tryz.t131,Tryz.underlying128,Tryz.type131,⟨_,z,z⟩,z,z,z,by decide⟩
theorem ts128:TS Tryz.prog 128 3:=⟨131,Tryz.underlying128,Tryz.sizeOf131⟩
theorem fa131_1:FA Tryz.prog 131 1 1:=fa_of (n:=0) Tryz.underlying131 z z Tryz.sizeOf3
theorem fa131_2:FA Tryz.prog 131 2 2:=fa_of (n:=0) Tryz.underlying131 z z Tryz.sizeOf3
theorem bt131:BT Tryz.prog 131 [.slice none 0 0,I 0,I 0] #[(0,1),(1,1),(2,1)]:=⟨Tryz.zeroValue131,_,Tryz.underlying131,fun w=>by simp [Tryz.sizeOf3,Tryz.sizeOf37]⟩
theorem ta131:TA Tryz.prog 131 3:=⟨Tryz.isAgg131,Tryz.sizeOf131⟩
theorem fa131_0:FA Tryz.prog 131 0 0:=fa_of (n:=0) Tryz.underlying131 z z Tryz.sizeOf37
theorem te27:TE Tryz.prog 27 4 32 [I 0,I 0,I 0,I 0]:=⟨41,Tryz.t41,Tryz.underlying27,Tryz.type41,⟨_,z,z⟩,z,z,z,by decide⟩
theorem bt41:BT Tryz.prog 41 [I 0,I 0,I 0,I 0] #[(0,1),(1,1),(2,1),(3,1)]:=⟨Tryz.zeroValue41,_,Tryz.underlying41,fun w=>by simp [Tryz.sizeOf3]⟩
theorem ts27:TS Tryz.prog 27 4:=⟨41,Tryz.underlying27,Tryz.sizeOf41⟩
theorem fa41_0:FA Tryz.prog 41 0 0:=fa_of (n:=0) Tryz.underlying41 z z Tryz.sizeOf3
theorem bt29:BT Tryz.prog 29 [.slice none 0 0,.slice none 0 0] #[(0,1),(1,1)]:=⟨Tryz.zeroValue29,_,Tryz.underlying29,fun w=>by simp [Tryz.sizeOf26,Tryz.sizeOf27]⟩
theorem ta29:TA Tryz.prog 29 2:=⟨Tryz.isAgg29,Tryz.sizeOf29⟩
theorem te95:TE Tryz.prog 95 4 32 [I 0,I 0,I 0,I 0]:=⟨96,Tryz.t96,Tryz.underlying95,Tryz.type96,⟨_,z,z⟩,z,z,z,by decide⟩
theorem fa29_0:FA Tryz.prog 29 0 0:=fa_of (n:=0) Tryz.underlying29 z z Tryz.sizeOf26
theorem t126:T1 Tryz.prog 26:=⟨fun w=>by simp [isAgg,run_underlying Tryz.underlying26],Tryz.sizeOf26⟩
theorem ts26:TS Tryz.prog 26 3:=⟨39,Tryz.underlying26,Tryz.sizeOf39⟩
theorem fa39_1:FA Tryz.prog 39 1 1:=fa_of (n:=0) Tryz.underlying39 z z Tryz.sizeOf3
theorem ta41:TA Tryz.prog 41 4:=⟨Tryz.isAgg41,Tryz.sizeOf41⟩
theorem fa29_1:FA Tryz.prog 29 1 1:=fa_of (n:=0) Tryz.underlying29 z z Tryz.sizeOf27
theorem t127:T1 Tryz.prog 27:=⟨fun w=>by simp [isAgg,run_underlying Tryz.underlying27],Tryz.sizeOf27⟩
theorem fa41_1:FA Tryz.prog 41 1 1:=fa_of (n:=0) Tryz.underlying41 z z Tryz.sizeOf3
theorem fa41_3:FA Tryz.prog 41 3 3:=fa_of (n:=0) Tryz.underlying41 z z Tryz.sizeOf3
theorem fa41_2:FA Tryz.prog 41 2 2:=fa_of (n:=0) Tryz.underlying41 z z Tryz.sizeOf3
theorem te58:TE Tryz.prog 58 1 16 [.string ⟨#[]⟩]:=⟨9,Tryz.t9,Tryz.underlying58,Tryz.type9,⟨_,z,z⟩,z,z,z,by decide⟩
theorem ts58:TS Tryz.prog 58 1:=⟨9,Tryz.underlying58,Tryz.sizeOf9⟩
theorem t19:T1 Tryz.prog 9:=⟨fun w=>by simp [isAgg,run_underlying Tryz.underlying9],Tryz.sizeOf9⟩
theorem te24:TE Tryz.prog 24 1 1 [.int .u8 0]:=⟨5,Tryz.t5,Tryz.underlying24,Tryz.type5,⟨_,z,z⟩,z,z,z,by decide⟩
theorem seq41:SEq Tryz.prog 41 Spot:=seqSpot Tryz.underlying41 Tryz.stoodInHeld41 Tryz.eqGuardType41 Tryz.underlying3 z
theorem mkPlan {w:World} {x:Plan} {F0 F1:List Nat} {v0 v1:Value} (h0:rd w F0 [v0] x.fCartons) (h1:rd w F1 [v1] x.fSpots):rd w (F0 ++ F1) [v0,v1] x:=⟨_,_,_,_,rfl,rfl,h0,h1⟩
theorem mkRequest {w:World} {x:Request} {F0 F1 F2:List Nat} {v0 v1 v2:Value} (h0:rd w F0 [v0] x.fPairs) (h1:rd w F1 [v1] x.fTypes) (h2:rd w F2 [v2] x.fItems):rd w (F0 ++ (F1 ++ F2)) [I x.fWay,I x.fPallet.fW,I x.fPallet.fD,I x.fPallet.fH,I x.fPallet.fGram,I x.fClasses,v0,v1,I x.fMaster,v2] x:=⟨_,_,_,_,_,_,rfl,rfl,h0,h1,h2⟩
theorem mkCarton {w:World} {x:Carton} {F0:List Nat} {v0:Value} (h0:rd w F0 [v0] x.fUnits):rd w F0 [I x.fType,I x.fGroup,v0] x:=⟨_,_,rfl,rfl,h0⟩
theorem mkShelf {w:World} {x:Shelf} {F0:List Nat} {v0:Value} (h0:rd w F0 [v0] x.fList):rd w F0 [v0,I x.fW,I x.fD,I x.fH,I x.fGram] x:=⟨_,_,rfl,rfl,h0⟩
abbrev cR (x:Request) (a b c:Value):List Value:=[I x.fWay,I x.fPallet.fW,I x.fPallet.fD,I x.fPallet.fH,I x.fPallet.fGram,I x.fClasses,a,b,I x.fMaster,c]
end Go.Proofs.YtpcmapfabndggabGreatDoor
