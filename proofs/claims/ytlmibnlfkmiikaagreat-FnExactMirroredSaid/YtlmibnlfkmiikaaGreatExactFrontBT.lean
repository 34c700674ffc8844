/- FnExactFront: facts on types of the functions that it reaches. Printed by gen.py. -/
import Derived.Test.YtlmibnlfkmiikaaGreatExactFrontBD
import Derived.Test.YtlmibnlfkmiikaaGreatS9
import Derived.Test.YtlmibnlfkmiikaaGreatS12
import Derived.Test.YtlmibnlfkmiikaaGreatS15
import Derived.Test.YtlmibnlfkmiikaaGreatS17
import Derived.Test.YtlmibnlfkmiikaaGreatProg
import Derived.Test.YtlmibnlfkmiikaaGreatShelf
set_option maxRecDepth 20000
set_option linter.unusedSimpArgs false
set_option linter.unusedVariables false
namespace Go.Proofs.YtlmibnlfkmiikaaGreat
open Go Go.RowKit
open Enc (rd ow)
open Arg (argv)
open Ret (retv)
open Go.Proofs.Tryz

theorem mixo:Tryz.prog.follows .mixedOrders = true:=by kernel_rfl
theorem fa52_3:FA Tryz.prog 52 3 6:=fa_of (n:=0) Tryz.underlying52 z z Tryz.sizeOf48
theorem t148:T1 Tryz.prog 48:=⟨fun w=>by simp [isAgg,run_underlying Tryz.underlying48],Tryz.sizeOf48⟩
theorem fa52_4:FA Tryz.prog 52 4 7:=fa_of (n:=0) Tryz.underlying52 z z Tryz.sizeOf49
theorem t149:T1 Tryz.prog 49:=⟨fun w=>by simp [isAgg,run_underlying Tryz.underlying49],Tryz.sizeOf49⟩
theorem fa52_6:FA Tryz.prog 52 6 9:=fa_of (n:=0) Tryz.underlying52 z z Tryz.sizeOf50
theorem t150:T1 Tryz.prog 50:=⟨fun w=>by simp [isAgg,run_underlying Tryz.underlying50],Tryz.sizeOf50⟩
theorem fa190_2:FA Tryz.prog 190 2 2:=fa_of (n:=0) Tryz.underlying190 z z Tryz.sizeOf31
theorem t131:T1 Tryz.prog 31:=⟨fun w=>by simp [isAgg,run_underlying Tryz.underlying31],Tryz.sizeOf31⟩
theorem ts66:TS Tryz.prog 66 3:=⟨190,Tryz.underlying66,Tryz.sizeOf190⟩
theorem ta190:TA Tryz.prog 190 3:=⟨Tryz.isAgg190,Tryz.sizeOf190⟩
theorem fa69_0:FA Tryz.prog 69 0 0:=fa_of (n:=0) Tryz.underlying69 z z Tryz.sizeOf66
theorem t166:T1 Tryz.prog 66:=⟨fun w=>by simp [isAgg,run_underlying Tryz.underlying66],Tryz.sizeOf66⟩
theorem fa69_1:FA Tryz.prog 69 1 1:=fa_of (n:=0) Tryz.underlying69 z z Tryz.sizeOf67
theorem t167:T1 Tryz.prog 67:=⟨fun w=>by simp [isAgg,run_underlying Tryz.underlying67],Tryz.sizeOf67⟩
theorem fa47_0:FA Tryz.prog 47 0 0:=fa_of (n:=0) Tryz.underlying47 z z Tryz.sizeOf3
theorem t13:T1 Tryz.prog 3:=⟨fun w=>by simp [isAgg,run_underlying Tryz.underlying3],Tryz.sizeOf3⟩
theorem fa25_0:FA Tryz.prog 25 0 0:=fa_of (n:=0) Tryz.underlying25 z z Tryz.sizeOf3
theorem fa47_1:FA Tryz.prog 47 1 1:=fa_of (n:=0) Tryz.underlying47 z z Tryz.sizeOf3
theorem fa25_1:FA Tryz.prog 25 1 1:=fa_of (n:=0) Tryz.underlying25 z z Tryz.sizeOf3
theorem fa47_2:FA Tryz.prog 47 2 2:=fa_of (n:=0) Tryz.underlying47 z z Tryz.sizeOf3
theorem fa25_2:FA Tryz.prog 25 2 2:=fa_of (n:=0) Tryz.underlying25 z z Tryz.sizeOf3
theorem fa47_3:FA Tryz.prog 47 3 3:=fa_of (n:=0) Tryz.underlying47 z z Tryz.sizeOf3
theorem fa25_3:FA Tryz.prog 25 3 3:=fa_of (n:=0) Tryz.underlying25 z z Tryz.sizeOf3
theorem ta25:TA Tryz.prog 25 4:=⟨Tryz.isAgg25,Tryz.sizeOf25⟩
theorem fa173_0:FA Tryz.prog 173 0 0:=fa_of (n:=0) Tryz.underlying173 z z Tryz.sizeOf3
theorem fa158_0:FA Tryz.prog 158 0 0:=fa_of (n:=0) Tryz.underlying158 z z Tryz.sizeOf3
theorem fa173_1:FA Tryz.prog 173 1 1:=fa_of (n:=0) Tryz.underlying173 z z Tryz.sizeOf3
theorem fa158_1:FA Tryz.prog 158 1 1:=fa_of (n:=0) Tryz.underlying158 z z Tryz.sizeOf3
theorem ta158:TA Tryz.prog 158 2:=⟨Tryz.isAgg158,Tryz.sizeOf158⟩
theorem te26:TE Tryz.prog 26 2 16 [I 0,I 0]:=⟨158,Tryz.t158,Tryz.underlying26,Tryz.type158,⟨_,z,z⟩,z,z,z,by decide⟩
theorem ts48:TS Tryz.prog 48 2:=⟨173,Tryz.underlying48,Tryz.sizeOf173⟩
theorem ta173:TA Tryz.prog 173 2:=⟨Tryz.isAgg173,Tryz.sizeOf173⟩
theorem ts26:TS Tryz.prog 26 2:=⟨158,Tryz.underlying26,Tryz.sizeOf158⟩
theorem fa175_0:FA Tryz.prog 175 0 0:=fa_of (n:=0) Tryz.underlying175 z z Tryz.sizeOf3
theorem fa38_0:FA Tryz.prog 38 0 0:=fa_of (n:=0) Tryz.underlying38 z z Tryz.sizeOf3
theorem fa175_1:FA Tryz.prog 175 1 1:=fa_of (n:=0) Tryz.underlying175 z z Tryz.sizeOf3
theorem fa38_1:FA Tryz.prog 38 1 1:=fa_of (n:=0) Tryz.underlying38 z z Tryz.sizeOf3
theorem fa175_2:FA Tryz.prog 175 2 2:=fa_of (n:=0) Tryz.underlying175 z z Tryz.sizeOf3
theorem fa38_2:FA Tryz.prog 38 2 2:=fa_of (n:=0) Tryz.underlying38 z z Tryz.sizeOf3
theorem fa175_3:FA Tryz.prog 175 3 3:=fa_of (n:=0) Tryz.underlying175 z z Tryz.sizeOf3
theorem fa38_3:FA Tryz.prog 38 3 3:=fa_of (n:=0) Tryz.underlying38 z z Tryz.sizeOf3
theorem fa175_4:FA Tryz.prog 175 4 4:=fa_of (n:=0) Tryz.underlying175 z z Tryz.sizeOf3
theorem fa38_4:FA Tryz.prog 38 4 4:=fa_of (n:=0) Tryz.underlying38 z z Tryz.sizeOf3
theorem fa175_5:FA Tryz.prog 175 5 5:=fa_of (n:=0) Tryz.underlying175 z z Tryz.sizeOf3
theorem fa38_5:FA Tryz.prog 38 5 5:=fa_of (n:=0) Tryz.underlying38 z z Tryz.sizeOf3
theorem fa175_6:FA Tryz.prog 175 6 6:=fa_of (n:=0) Tryz.underlying175 z z Tryz.sizeOf3
theorem fa38_6:FA Tryz.prog 38 6 6:=fa_of (n:=0) Tryz.underlying38 z z Tryz.sizeOf3
theorem ta38:TA Tryz.prog 38 7:=⟨Tryz.isAgg38,Tryz.sizeOf38⟩
theorem te27:TE Tryz.prog 27 7 56 [I 0,I 0,I 0,I 0,I 0,I 0,I 0]:=⟨38,Tryz.t38,Tryz.underlying27,Tryz.type38,⟨_,z,z⟩,z,z,z,by decide⟩
theorem ts49:TS Tryz.prog 49 7:=⟨175,Tryz.underlying49,Tryz.sizeOf175⟩
theorem ta175:TA Tryz.prog 175 7:=⟨Tryz.isAgg175,Tryz.sizeOf175⟩
theorem ts27:TS Tryz.prog 27 7:=⟨38,Tryz.underlying27,Tryz.sizeOf38⟩
theorem fa177_0:FA Tryz.prog 177 0 0:=fa_of (n:=0) Tryz.underlying177 z z Tryz.sizeOf3
theorem fa97_0:FA Tryz.prog 97 0 0:=fa_of (n:=0) Tryz.underlying97 z z Tryz.sizeOf3
theorem fa177_1:FA Tryz.prog 177 1 1:=fa_of (n:=0) Tryz.underlying177 z z Tryz.sizeOf3
theorem fa97_1:FA Tryz.prog 97 1 1:=fa_of (n:=0) Tryz.underlying97 z z Tryz.sizeOf3
theorem fa177_2:FA Tryz.prog 177 2 2:=fa_of (n:=0) Tryz.underlying177 z z Tryz.sizeOf3
theorem fa97_2:FA Tryz.prog 97 2 2:=fa_of (n:=0) Tryz.underlying97 z z Tryz.sizeOf3
theorem fa177_3:FA Tryz.prog 177 3 3:=fa_of (n:=0) Tryz.underlying177 z z Tryz.sizeOf3
theorem fa97_3:FA Tryz.prog 97 3 3:=fa_of (n:=0) Tryz.underlying97 z z Tryz.sizeOf3
theorem fa177_4:FA Tryz.prog 177 4 4:=fa_of (n:=0) Tryz.underlying177 z z Tryz.sizeOf3
theorem fa97_4:FA Tryz.prog 97 4 4:=fa_of (n:=0) Tryz.underlying97 z z Tryz.sizeOf3
theorem fa177_5:FA Tryz.prog 177 5 5:=fa_of (n:=0) Tryz.underlying177 z z Tryz.sizeOf3
theorem fa97_5:FA Tryz.prog 97 5 5:=fa_of (n:=0) Tryz.underlying97 z z Tryz.sizeOf3
theorem fa177_6:FA Tryz.prog 177 6 6:=fa_of (n:=0) Tryz.underlying177 z z Tryz.sizeOf3
theorem fa97_6:FA Tryz.prog 97 6 6:=fa_of (n:=0) Tryz.underlying97 z z Tryz.sizeOf3
theorem ta97:TA Tryz.prog 97 7:=⟨Tryz.isAgg97,Tryz.sizeOf97⟩
theorem te28:TE Tryz.prog 28 7 56 [I 0,I 0,I 0,I 0,I 0,I 0,I 0]:=⟨97,Tryz.t97,Tryz.underlying28,Tryz.type97,⟨_,z,z⟩,z,z,z,by decide⟩
theorem ts50:TS Tryz.prog 50 7:=⟨177,Tryz.underlying50,Tryz.sizeOf177⟩
theorem ta177:TA Tryz.prog 177 7:=⟨Tryz.isAgg177,Tryz.sizeOf177⟩
theorem ts28:TS Tryz.prog 28 7:=⟨97,Tryz.underlying28,Tryz.sizeOf97⟩
theorem fa52_0:FA Tryz.prog 52 0 0:=fa_of (n:=0) Tryz.underlying52 z z Tryz.sizeOf3
theorem fa30_0:FA Tryz.prog 30 0 0:=fa_of (n:=0) Tryz.underlying30 z z Tryz.sizeOf3
theorem fa52_1:FA Tryz.prog 52 1 1:=fa_of (n:=3) Tryz.underlying52 z z Tryz.sizeOf47
theorem ta47:TA Tryz.prog 47 4:=⟨Tryz.isAgg47,Tryz.sizeOf47⟩
theorem fa30_1:FA Tryz.prog 30 1 1:=fa_of (n:=3) Tryz.underlying30 z z Tryz.sizeOf25
theorem fa52_2:FA Tryz.prog 52 2 5:=fa_of (n:=0) Tryz.underlying52 z z Tryz.sizeOf3
theorem fa30_2:FA Tryz.prog 30 2 5:=fa_of (n:=0) Tryz.underlying30 z z Tryz.sizeOf3
theorem fa30_3:FA Tryz.prog 30 3 6:=fa_of (n:=0) Tryz.underlying30 z z Tryz.sizeOf26
theorem fa30_4:FA Tryz.prog 30 4 7:=fa_of (n:=0) Tryz.underlying30 z z Tryz.sizeOf27
theorem fa52_5:FA Tryz.prog 52 5 8:=fa_of (n:=0) Tryz.underlying52 z z Tryz.sizeOf3
theorem fa30_5:FA Tryz.prog 30 5 8:=fa_of (n:=0) Tryz.underlying30 z z Tryz.sizeOf3
theorem fa30_6:FA Tryz.prog 30 6 9:=fa_of (n:=0) Tryz.underlying30 z z Tryz.sizeOf28
theorem ta30:TA Tryz.prog 30 10:=⟨Tryz.isAgg30,Tryz.sizeOf30⟩
theorem te31:TE Tryz.prog 31 1 8 [I 0]:=⟨3,Tryz.t3,Tryz.underlying31,Tryz.type3,⟨_,z,z⟩,z,z,z,by decide⟩
theorem ts31:TS Tryz.prog 31 1:=⟨3,Tryz.underlying31,Tryz.sizeOf3⟩
theorem fa190_0:FA Tryz.prog 190 0 0:=fa_of (n:=0) Tryz.underlying190 z z Tryz.sizeOf3
theorem fa33_0:FA Tryz.prog 33 0 0:=fa_of (n:=0) Tryz.underlying33 z z Tryz.sizeOf3
theorem fa190_1:FA Tryz.prog 190 1 1:=fa_of (n:=0) Tryz.underlying190 z z Tryz.sizeOf3
theorem fa33_1:FA Tryz.prog 33 1 1:=fa_of (n:=0) Tryz.underlying33 z z Tryz.sizeOf3
theorem fa33_2:FA Tryz.prog 33 2 2:=fa_of (n:=0) Tryz.underlying33 z z Tryz.sizeOf31
theorem ta33:TA Tryz.prog 33 3:=⟨Tryz.isAgg33,Tryz.sizeOf33⟩
theorem te43:TE Tryz.prog 43 3 40 [I 0,I 0,.slice none 0 0]:=⟨33,Tryz.t33,Tryz.underlying43,Tryz.type33,⟨_,z,z⟩,z,z,z,by decide⟩
theorem ts43:TS Tryz.prog 43 3:=⟨33,Tryz.underlying43,Tryz.sizeOf33⟩
theorem fa196_0:FA Tryz.prog 196 0 0:=fa_of (n:=0) Tryz.underlying196 z z Tryz.sizeOf3
theorem fa139_0:FA Tryz.prog 139 0 0:=fa_of (n:=0) Tryz.underlying139 z z Tryz.sizeOf3
theorem fa196_1:FA Tryz.prog 196 1 1:=fa_of (n:=0) Tryz.underlying196 z z Tryz.sizeOf3
theorem fa139_1:FA Tryz.prog 139 1 1:=fa_of (n:=0) Tryz.underlying139 z z Tryz.sizeOf3
theorem fa196_2:FA Tryz.prog 196 2 2:=fa_of (n:=0) Tryz.underlying196 z z Tryz.sizeOf3
theorem fa139_2:FA Tryz.prog 139 2 2:=fa_of (n:=0) Tryz.underlying139 z z Tryz.sizeOf3
theorem fa196_3:FA Tryz.prog 196 3 3:=fa_of (n:=0) Tryz.underlying196 z z Tryz.sizeOf3
theorem fa139_3:FA Tryz.prog 139 3 3:=fa_of (n:=0) Tryz.underlying139 z z Tryz.sizeOf3
theorem ta139:TA Tryz.prog 139 4:=⟨Tryz.isAgg139,Tryz.sizeOf139⟩
theorem te72:TE Tryz.prog 72 4 32 [I 0,I 0,I 0,I 0]:=⟨139,Tryz.t139,Tryz.underlying72,Tryz.type139,⟨_,z,z⟩,z,z,z,by decide⟩
theorem ts67:TS Tryz.prog 67 4:=⟨196,Tryz.underlying67,Tryz.sizeOf196⟩
theorem ta196:TA Tryz.prog 196 4:=⟨Tryz.isAgg196,Tryz.sizeOf196⟩
theorem ts72:TS Tryz.prog 72 4:=⟨139,Tryz.underlying72,Tryz.sizeOf139⟩
theorem fa74_0:FA Tryz.prog 74 0 0:=fa_of (n:=0) Tryz.underlying74 z z Tryz.sizeOf43
theorem fa74_1:FA Tryz.prog 74 1 1:=fa_of (n:=0) Tryz.underlying74 z z Tryz.sizeOf72
theorem ta74:TA Tryz.prog 74 2:=⟨Tryz.isAgg74,Tryz.sizeOf74⟩
theorem bt33:BT Tryz.prog 33 [I 0,I 0,.slice none 0 0] #[(0,1),(1,1),(2,1)]:=⟨Tryz.zeroValue33,_,Tryz.underlying33,fun w=>by simp [Tryz.sizeOf3,Tryz.sizeOf31]⟩
theorem t172:T1 Tryz.prog 72:=⟨fun w=>by simp [isAgg,run_underlying Tryz.underlying72],Tryz.sizeOf72⟩
theorem bt74:BT Tryz.prog 74 [.slice none 0 0,.slice none 0 0] #[(0,1),(1,1)]:=⟨Tryz.zeroValue74,_,Tryz.underlying74,fun w=>by simp [Tryz.sizeOf43,Tryz.sizeOf72]⟩
theorem t143:T1 Tryz.prog 43:=⟨fun w=>by simp [isAgg,run_underlying Tryz.underlying43],Tryz.sizeOf43⟩
theorem t126:T1 Tryz.prog 26:=⟨fun w=>by simp [isAgg,run_underlying Tryz.underlying26],Tryz.sizeOf26⟩
theorem t127:T1 Tryz.prog 27:=⟨fun w=>by simp [isAgg,run_underlying Tryz.underlying27],Tryz.sizeOf27⟩
theorem t128:T1 Tryz.prog 28:=⟨fun w=>by simp [isAgg,run_underlying Tryz.underlying28],Tryz.sizeOf28⟩
theorem bt38:BT Tryz.prog 38 [I 0,I 0,I 0,I 0,I 0,I 0,I 0] #[(0,1),(1,1),(2,1),(3,1),(4,1),(5,1),(6,1)]:=⟨Tryz.zeroValue38,_,Tryz.underlying38,fun w=>by simp [Tryz.sizeOf3]⟩
theorem bt97:BT Tryz.prog 97 [I 0,I 0,I 0,I 0,I 0,I 0,I 0] #[(0,1),(1,1),(2,1),(3,1),(4,1),(5,1),(6,1)]:=⟨Tryz.zeroValue97,_,Tryz.underlying97,fun w=>by simp [Tryz.sizeOf3]⟩
theorem bt217:BT Tryz.prog 217 [I 0,I 0] #[(0,1),(1,1)]:=⟨Tryz.zeroValue217,_,Tryz.underlying217,fun w=>by simp [Tryz.sizeOf3]⟩
theorem fa217_0:FA Tryz.prog 217 0 0:=fa_of (n:=0) Tryz.underlying217 z z Tryz.sizeOf3
theorem fa217_1:FA Tryz.prog 217 1 1:=fa_of (n:=0) Tryz.underlying217 z z Tryz.sizeOf3
theorem ta217:TA Tryz.prog 217 2:=⟨Tryz.isAgg217,Tryz.sizeOf217⟩
theorem te53:TE Tryz.prog 53 1 24 [.slice none 0 0]:=⟨31,Tryz.t31,Tryz.underlying53,Tryz.type31,⟨_,z,z⟩,z,z,z,by decide⟩
theorem ts53:TS Tryz.prog 53 1:=⟨31,Tryz.underlying53,Tryz.sizeOf31⟩
theorem bt140:BT Tryz.prog 140 [I 0,I 0,I 0,I 0] #[(0,1),(1,1),(2,1),(3,1)]:=⟨Tryz.zeroValue140,_,Tryz.underlying140,fun w=>by simp [Tryz.sizeOf3]⟩
theorem ta140:TA Tryz.prog 140 4:=⟨Tryz.isAgg140,Tryz.sizeOf140⟩
theorem fa140_0:FA Tryz.prog 140 0 0:=fa_of (n:=0) Tryz.underlying140 z z Tryz.sizeOf3
theorem fa140_1:FA Tryz.prog 140 1 1:=fa_of (n:=0) Tryz.underlying140 z z Tryz.sizeOf3
theorem fa140_2:FA Tryz.prog 140 2 2:=fa_of (n:=0) Tryz.underlying140 z z Tryz.sizeOf3
theorem fd140_1:FD Tryz.prog 140 1 1 1 false:=⟨_,_,Tryz.underlying140,z,z,(fun w=>by simp [isAgg,run_underlying Tryz.underlying3]),Tryz.sizeOf3⟩
theorem seq158:SEq Tryz.prog 158 Pair:=seqPair Tryz.underlying158 Tryz.stoodInHeld158 Tryz.eqGuardType158 Tryz.underlying3 z
theorem bt158:BT Tryz.prog 158 [I 0,I 0] #[(0,1),(1,1)]:=⟨Tryz.zeroValue158,_,Tryz.underlying158,fun w=>by simp [Tryz.sizeOf3]⟩
theorem t153:T1 Tryz.prog 53:=⟨fun w=>by simp [isAgg,run_underlying Tryz.underlying53],Tryz.sizeOf53⟩
theorem te149:TE Tryz.prog 149 4 32 [I 0,I 0,I 0,I 0]:=⟨140,Tryz.t140,Tryz.underlying149,Tryz.type140,⟨_,z,z⟩,z,z,z,by decide⟩
theorem ts149:TS Tryz.prog 149 4:=⟨140,Tryz.underlying149,Tryz.sizeOf140⟩
end Go.Proofs.YtlmibnlfkmiikaaGreat
