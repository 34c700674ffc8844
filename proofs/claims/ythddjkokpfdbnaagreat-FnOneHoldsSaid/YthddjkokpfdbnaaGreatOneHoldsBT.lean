/- FnOneHolds: facts on types of the functions that it reaches. Printed by gen.py. -/
import Derived.Test.YthddjkokpfdbnaaGreatOneHoldsBD
import Derived.Test.YthddjkokpfdbnaaGreatS9
import Derived.Test.YthddjkokpfdbnaaGreatS12
import Derived.Test.YthddjkokpfdbnaaGreatS15
import Derived.Test.YthddjkokpfdbnaaGreatS17
import Derived.Test.YthddjkokpfdbnaaGreatS20
import Derived.Test.YthddjkokpfdbnaaGreatProg
import Derived.Test.YthddjkokpfdbnaaGreatShelf
set_option maxRecDepth 20000
set_option linter.unusedSimpArgs false
set_option linter.unusedVariables false
set_option linter.unnecessarySimpa false
namespace Go.Proofs.YthddjkokpfdbnaaGreat
open Go Go.RowKit
open Enc (rd ow)
open Arg (argv)
open Ret (retv)
open Go.Proofs.Tryz

theorem mixo:Tryz.prog.follows .mixedOrders = true:=by kernel_rfl
theorem ts22:TS Tryz.prog 22 1:=⟨5,Tryz.underlying22,Tryz.sizeOf5⟩
theorem t15:T1 Tryz.prog 5:=⟨fun w=>by simp [isAgg,run_underlying Tryz.underlying5],Tryz.sizeOf5⟩
theorem bt152:BT Tryz.prog 152 [.slice none 0 0,I 0,I 0] #[(0,1),(1,1),(2,1)]:=⟨Tryz.zeroValue152,_,Tryz.underlying152,fun w=>by simp [Tryz.sizeOf22,Tryz.sizeOf3]⟩
theorem fa152_2:FA Tryz.prog 152 2 2:=fa_of (n:=0) Tryz.underlying152 z z Tryz.sizeOf3
theorem t13:T1 Tryz.prog 3:=⟨fun w=>by simp [isAgg,run_underlying Tryz.underlying3],Tryz.sizeOf3⟩
theorem fa152_1:FA Tryz.prog 152 1 1:=fa_of (n:=0) Tryz.underlying152 z z Tryz.sizeOf3
theorem fa152_0:FA Tryz.prog 152 0 0:=fa_of (n:=0) Tryz.underlying152 z z Tryz.sizeOf22
theorem t122:T1 Tryz.prog 22:=⟨fun w=>by simp [isAgg,run_underlying Tryz.underlying22],Tryz.sizeOf22⟩
theorem ts37:TS Tryz.prog 37 1:=⟨3,Tryz.underlying37,Tryz.sizeOf3⟩
theorem te37:TE Tryz.prog 37 1 8 [I 0]:=⟨3,Tryz.t3,Tryz.underlying37,Tryz.type3,⟨_,z,z⟩,z,z,z,by decide⟩
theorem bt25:BT Tryz.prog 25 [I 0,I 0,I 0,I 0] #[(0,1),(1,1),(2,1),(3,1)]:=⟨Tryz.zeroValue25,_,Tryz.underlying25,fun w=>by simp [Tryz.sizeOf3]⟩
theorem bt30:BT Tryz.prog 30 [I 0,I 0,I 0,I 0,I 0,I 0,.slice none 0 0,.slice none 0 0,I 0,.slice none 0 0] #[(0,1),(1,4),(5,1),(6,1),(7,1),(8,1),(9,1)]:=⟨Tryz.zeroValue30,_,Tryz.underlying30,fun w=>by simp [Tryz.sizeOf25,Tryz.sizeOf26,Tryz.sizeOf27,Tryz.sizeOf28,Tryz.sizeOf3]⟩
theorem fa30_2:FA Tryz.prog 30 2 5:=fa_of (n:=0) Tryz.underlying30 z z Tryz.sizeOf3
theorem fa30_3:FA Tryz.prog 30 3 6:=fa_of (n:=0) Tryz.underlying30 z z Tryz.sizeOf26
theorem t126:T1 Tryz.prog 26:=⟨fun w=>by simp [isAgg,run_underlying Tryz.underlying26],Tryz.sizeOf26⟩
theorem bt141:BT Tryz.prog 141 [I 0,I 0] #[(0,1),(1,1)]:=⟨Tryz.zeroValue141,_,Tryz.underlying141,fun w=>by simp [Tryz.sizeOf3]⟩
theorem te26:TE Tryz.prog 26 2 16 [I 0,I 0]:=⟨141,Tryz.t141,Tryz.underlying26,Tryz.type141,⟨_,z,z⟩,z,z,z,by decide⟩
theorem fa30_4:FA Tryz.prog 30 4 7:=fa_of (n:=0) Tryz.underlying30 z z Tryz.sizeOf27
theorem t127:T1 Tryz.prog 27:=⟨fun w=>by simp [isAgg,run_underlying Tryz.underlying27],Tryz.sizeOf27⟩
theorem bt76:BT Tryz.prog 76 [I 0,I 0,I 0,I 0,I 0,I 0,I 0] #[(0,1),(1,1),(2,1),(3,1),(4,1),(5,1),(6,1)]:=⟨Tryz.zeroValue76,_,Tryz.underlying76,fun w=>by simp [Tryz.sizeOf3]⟩
theorem te27:TE Tryz.prog 27 7 56 [I 0,I 0,I 0,I 0,I 0,I 0,I 0]:=⟨76,Tryz.t76,Tryz.underlying27,Tryz.type76,⟨_,z,z⟩,z,z,z,by decide⟩
theorem bt83:BT Tryz.prog 83 [I 0,I 0,I 0,I 0,I 0,I 0,I 0] #[(0,1),(1,1),(2,1),(3,1),(4,1),(5,1),(6,1)]:=⟨Tryz.zeroValue83,_,Tryz.underlying83,fun w=>by simp [Tryz.sizeOf3]⟩
theorem fa83_1:FA Tryz.prog 83 1 1:=fa_of (n:=0) Tryz.underlying83 z z Tryz.sizeOf3
theorem fa83_2:FA Tryz.prog 83 2 2:=fa_of (n:=0) Tryz.underlying83 z z Tryz.sizeOf3
theorem fa83_3:FA Tryz.prog 83 3 3:=fa_of (n:=0) Tryz.underlying83 z z Tryz.sizeOf3
theorem fa83_6:FA Tryz.prog 83 6 6:=fa_of (n:=0) Tryz.underlying83 z z Tryz.sizeOf3
theorem fa30_6:FA Tryz.prog 30 6 9:=fa_of (n:=0) Tryz.underlying30 z z Tryz.sizeOf28
theorem t128:T1 Tryz.prog 28:=⟨fun w=>by simp [isAgg,run_underlying Tryz.underlying28],Tryz.sizeOf28⟩
theorem ta83:TA Tryz.prog 83 7:=⟨Tryz.isAgg83,Tryz.sizeOf83⟩
theorem te28:TE Tryz.prog 28 7 56 [I 0,I 0,I 0,I 0,I 0,I 0,I 0]:=⟨83,Tryz.t83,Tryz.underlying28,Tryz.type83,⟨_,z,z⟩,z,z,z,by decide⟩
theorem ta30:TA Tryz.prog 30 10:=⟨Tryz.isAgg30,Tryz.sizeOf30⟩
theorem fa25_0:FA Tryz.prog 25 0 0:=fa_of (n:=0) Tryz.underlying25 z z Tryz.sizeOf3
theorem fa25_1:FA Tryz.prog 25 1 1:=fa_of (n:=0) Tryz.underlying25 z z Tryz.sizeOf3
theorem fa25_2:FA Tryz.prog 25 2 2:=fa_of (n:=0) Tryz.underlying25 z z Tryz.sizeOf3
theorem fa25_3:FA Tryz.prog 25 3 3:=fa_of (n:=0) Tryz.underlying25 z z Tryz.sizeOf3
theorem fa76_0:FA Tryz.prog 76 0 0:=fa_of (n:=0) Tryz.underlying76 z z Tryz.sizeOf3
theorem fa76_1:FA Tryz.prog 76 1 1:=fa_of (n:=0) Tryz.underlying76 z z Tryz.sizeOf3
theorem fa76_2:FA Tryz.prog 76 2 2:=fa_of (n:=0) Tryz.underlying76 z z Tryz.sizeOf3
theorem fa76_3:FA Tryz.prog 76 3 3:=fa_of (n:=0) Tryz.underlying76 z z Tryz.sizeOf3
theorem fa76_4:FA Tryz.prog 76 4 4:=fa_of (n:=0) Tryz.underlying76 z z Tryz.sizeOf3
theorem fa76_5:FA Tryz.prog 76 5 5:=fa_of (n:=0) Tryz.underlying76 z z Tryz.sizeOf3
theorem fa76_6:FA Tryz.prog 76 6 6:=fa_of (n:=0) Tryz.underlying76 z z Tryz.sizeOf3
theorem fa83_0:FA Tryz.prog 83 0 0:=fa_of (n:=0) Tryz.underlying83 z z Tryz.sizeOf3
theorem fa83_4:FA Tryz.prog 83 4 4:=fa_of (n:=0) Tryz.underlying83 z z Tryz.sizeOf3
theorem fa83_5:FA Tryz.prog 83 5 5:=fa_of (n:=0) Tryz.underlying83 z z Tryz.sizeOf3
theorem fa30_0:FA Tryz.prog 30 0 0:=fa_of (n:=0) Tryz.underlying30 z z Tryz.sizeOf3
theorem fa30_1:FA Tryz.prog 30 1 1:=fa_of (n:=3) Tryz.underlying30 z z Tryz.sizeOf25
theorem ta25:TA Tryz.prog 25 4:=⟨Tryz.isAgg25,Tryz.sizeOf25⟩
theorem fa30_5:FA Tryz.prog 30 5 8:=fa_of (n:=0) Tryz.underlying30 z z Tryz.sizeOf3
theorem ts26:TS Tryz.prog 26 2:=⟨141,Tryz.underlying26,Tryz.sizeOf141⟩
theorem fa141_0:FA Tryz.prog 141 0 0:=fa_of (n:=0) Tryz.underlying141 z z Tryz.sizeOf3
theorem fa141_1:FA Tryz.prog 141 1 1:=fa_of (n:=0) Tryz.underlying141 z z Tryz.sizeOf3
theorem ts27:TS Tryz.prog 27 7:=⟨76,Tryz.underlying27,Tryz.sizeOf76⟩
theorem ta76:TA Tryz.prog 76 7:=⟨Tryz.isAgg76,Tryz.sizeOf76⟩
theorem ts28:TS Tryz.prog 28 7:=⟨83,Tryz.underlying28,Tryz.sizeOf83⟩
theorem ta141:TA Tryz.prog 141 2:=⟨Tryz.isAgg141,Tryz.sizeOf141⟩
theorem seq141:SEq Tryz.prog 141 Pair:=seqPair Tryz.underlying141 Tryz.stoodInHeld141 Tryz.eqGuardType141 Tryz.underlying3 z
theorem ts31:TS Tryz.prog 31 1:=⟨37,Tryz.underlying31,Tryz.sizeOf37⟩
theorem t137:T1 Tryz.prog 37:=⟨fun w=>by simp [isAgg,run_underlying Tryz.underlying37],Tryz.sizeOf37⟩
theorem te31:TE Tryz.prog 31 1 24 [.slice none 0 0]:=⟨37,Tryz.t37,Tryz.underlying31,Tryz.type37,⟨_,z,z⟩,z,z,z,by decide⟩
theorem te49:TE Tryz.prog 49 3 40 [I 0,I 0,.slice none 0 0]:=⟨66,Tryz.t66,Tryz.underlying49,Tryz.type66,⟨_,z,z⟩,z,z,z,by decide⟩
theorem bt66:BT Tryz.prog 66 [I 0,I 0,.slice none 0 0] #[(0,1),(1,1),(2,1)]:=⟨Tryz.zeroValue66,_,Tryz.underlying66,fun w=>by simp [Tryz.sizeOf3,Tryz.sizeOf37]⟩
theorem ts49:TS Tryz.prog 49 3:=⟨66,Tryz.underlying49,Tryz.sizeOf66⟩
theorem ta66:TA Tryz.prog 66 3:=⟨Tryz.isAgg66,Tryz.sizeOf66⟩
theorem fa66_1:FA Tryz.prog 66 1 1:=fa_of (n:=0) Tryz.underlying66 z z Tryz.sizeOf3
theorem mkRequest {w:World} {x:Request} {F0 F1 F2:List Nat} {v0 v1 v2:Value} (h0:rd w F0 [v0] x.fPairs) (h1:rd w F1 [v1] x.fTypes) (h2:rd w F2 [v2] x.fItems):rd w (F0 ++ (F1 ++ F2)) [I x.fWay,I x.fPallet.fW,I x.fPallet.fD,I x.fPallet.fH,I x.fPallet.fGram,I x.fClasses,v0,v1,I x.fMaster,v2] x:=⟨_,_,_,_,_,_,rfl,rfl,h0,h1,h2⟩
end Go.Proofs.YthddjkokpfdbnaaGreat
