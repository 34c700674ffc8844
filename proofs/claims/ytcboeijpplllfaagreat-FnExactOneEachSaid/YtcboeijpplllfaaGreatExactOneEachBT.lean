/- FnExactOneEach: facts on types of the functions that it reaches. Printed by gen.py. -/
import Derived.Test.YtcboeijpplllfaaGreatExactOneEachBD
import Derived.Test.YtcboeijpplllfaaGreatS9
import Derived.Test.YtcboeijpplllfaaGreatS12
import Derived.Test.YtcboeijpplllfaaGreatS15
import Derived.Test.YtcboeijpplllfaaGreatS17
import Derived.Test.YtcboeijpplllfaaGreatS20
import Derived.Test.YtcboeijpplllfaaGreatProg
import Derived.Test.YtcboeijpplllfaaGreatShelf
set_option maxRecDepth 20000
set_option linter.unusedSimpArgs false
set_option linter.unusedVariables false
set_option linter.unnecessarySimpa false
namespace Go.Proofs.YtcboeijpplllfaaGreat
open Go Go.RowKit
open Enc (rd ow)
open Arg (argv)
open Ret (retv)
open Go.Proofs.Tryz

theorem mixo:Tryz.prog.follows .mixedOrders = true:=by kernel_rfl
theorem fa28_3:FA Tryz.prog 28 3 6:=fa_of (n:=0) Tryz.underlying28 z z Tryz.sizeOf24
theorem t124:T1 Tryz.prog 24:=⟨fun w=>by simp [isAgg,run_underlying Tryz.underlying24],Tryz.sizeOf24⟩
theorem fa28_4:FA Tryz.prog 28 4 7:=fa_of (n:=0) Tryz.underlying28 z z Tryz.sizeOf25
theorem t125:T1 Tryz.prog 25:=⟨fun w=>by simp [isAgg,run_underlying Tryz.underlying25],Tryz.sizeOf25⟩
theorem fa28_6:FA Tryz.prog 28 6 9:=fa_of (n:=0) Tryz.underlying28 z z Tryz.sizeOf26
theorem t126:T1 Tryz.prog 26:=⟨fun w=>by simp [isAgg,run_underlying Tryz.underlying26],Tryz.sizeOf26⟩
theorem fa23_0:FA Tryz.prog 23 0 0:=fa_of (n:=0) Tryz.underlying23 z z Tryz.sizeOf3
theorem t13:T1 Tryz.prog 3:=⟨fun w=>by simp [isAgg,run_underlying Tryz.underlying3],Tryz.sizeOf3⟩
theorem fa35_0:FA Tryz.prog 35 0 0:=fa_of (n:=0) Tryz.underlying35 z z Tryz.sizeOf3
theorem fa23_1:FA Tryz.prog 23 1 1:=fa_of (n:=0) Tryz.underlying23 z z Tryz.sizeOf3
theorem fa35_1:FA Tryz.prog 35 1 1:=fa_of (n:=0) Tryz.underlying35 z z Tryz.sizeOf3
theorem fa23_2:FA Tryz.prog 23 2 2:=fa_of (n:=0) Tryz.underlying23 z z Tryz.sizeOf3
theorem fa35_2:FA Tryz.prog 35 2 2:=fa_of (n:=0) Tryz.underlying35 z z Tryz.sizeOf3
theorem fa23_3:FA Tryz.prog 23 3 3:=fa_of (n:=0) Tryz.underlying23 z z Tryz.sizeOf3
theorem fa35_3:FA Tryz.prog 35 3 3:=fa_of (n:=0) Tryz.underlying35 z z Tryz.sizeOf3
theorem ta35:TA Tryz.prog 35 4:=⟨Tryz.isAgg35,Tryz.sizeOf35⟩
theorem fa90_0:FA Tryz.prog 90 0 0:=fa_of (n:=0) Tryz.underlying90 z z Tryz.sizeOf3
theorem fa88_0:FA Tryz.prog 88 0 0:=fa_of (n:=0) Tryz.underlying88 z z Tryz.sizeOf3
theorem fa90_1:FA Tryz.prog 90 1 1:=fa_of (n:=0) Tryz.underlying90 z z Tryz.sizeOf3
theorem fa88_1:FA Tryz.prog 88 1 1:=fa_of (n:=0) Tryz.underlying88 z z Tryz.sizeOf3
theorem ta88:TA Tryz.prog 88 2:=⟨Tryz.isAgg88,Tryz.sizeOf88⟩
theorem te36:TE Tryz.prog 36 2 16 [I 0,I 0]:=⟨88,Tryz.t88,Tryz.underlying36,Tryz.type88,⟨_,z,z⟩,z,z,z,by decide⟩
theorem ts24:TS Tryz.prog 24 2:=⟨90,Tryz.underlying24,Tryz.sizeOf90⟩
theorem ta90:TA Tryz.prog 90 2:=⟨Tryz.isAgg90,Tryz.sizeOf90⟩
theorem ts36:TS Tryz.prog 36 2:=⟨88,Tryz.underlying36,Tryz.sizeOf88⟩
theorem fa92_0:FA Tryz.prog 92 0 0:=fa_of (n:=0) Tryz.underlying92 z z Tryz.sizeOf3
theorem fa58_0:FA Tryz.prog 58 0 0:=fa_of (n:=0) Tryz.underlying58 z z Tryz.sizeOf3
theorem fa92_1:FA Tryz.prog 92 1 1:=fa_of (n:=0) Tryz.underlying92 z z Tryz.sizeOf3
theorem fa58_1:FA Tryz.prog 58 1 1:=fa_of (n:=0) Tryz.underlying58 z z Tryz.sizeOf3
theorem fa92_2:FA Tryz.prog 92 2 2:=fa_of (n:=0) Tryz.underlying92 z z Tryz.sizeOf3
theorem fa58_2:FA Tryz.prog 58 2 2:=fa_of (n:=0) Tryz.underlying58 z z Tryz.sizeOf3
theorem fa92_3:FA Tryz.prog 92 3 3:=fa_of (n:=0) Tryz.underlying92 z z Tryz.sizeOf3
theorem fa58_3:FA Tryz.prog 58 3 3:=fa_of (n:=0) Tryz.underlying58 z z Tryz.sizeOf3
theorem fa92_4:FA Tryz.prog 92 4 4:=fa_of (n:=0) Tryz.underlying92 z z Tryz.sizeOf3
theorem fa58_4:FA Tryz.prog 58 4 4:=fa_of (n:=0) Tryz.underlying58 z z Tryz.sizeOf3
theorem fa92_5:FA Tryz.prog 92 5 5:=fa_of (n:=0) Tryz.underlying92 z z Tryz.sizeOf3
theorem fa58_5:FA Tryz.prog 58 5 5:=fa_of (n:=0) Tryz.underlying58 z z Tryz.sizeOf3
theorem fa92_6:FA Tryz.prog 92 6 6:=fa_of (n:=0) Tryz.underlying92 z z Tryz.sizeOf3
theorem fa58_6:FA Tryz.prog 58 6 6:=fa_of (n:=0) Tryz.underlying58 z z Tryz.sizeOf3
theorem ta58:TA Tryz.prog 58 7:=⟨Tryz.isAgg58,Tryz.sizeOf58⟩
theorem te37:TE Tryz.prog 37 7 56 [I 0,I 0,I 0,I 0,I 0,I 0,I 0]:=⟨58,Tryz.t58,Tryz.underlying37,Tryz.type58,⟨_,z,z⟩,z,z,z,by decide⟩
theorem ts25:TS Tryz.prog 25 7:=⟨92,Tryz.underlying25,Tryz.sizeOf92⟩
theorem ta92:TA Tryz.prog 92 7:=⟨Tryz.isAgg92,Tryz.sizeOf92⟩
theorem ts37:TS Tryz.prog 37 7:=⟨58,Tryz.underlying37,Tryz.sizeOf58⟩
theorem fa94_0:FA Tryz.prog 94 0 0:=fa_of (n:=0) Tryz.underlying94 z z Tryz.sizeOf3
theorem fa83_0:FA Tryz.prog 83 0 0:=fa_of (n:=0) Tryz.underlying83 z z Tryz.sizeOf3
theorem fa94_1:FA Tryz.prog 94 1 1:=fa_of (n:=0) Tryz.underlying94 z z Tryz.sizeOf3
theorem fa83_1:FA Tryz.prog 83 1 1:=fa_of (n:=0) Tryz.underlying83 z z Tryz.sizeOf3
theorem fa94_2:FA Tryz.prog 94 2 2:=fa_of (n:=0) Tryz.underlying94 z z Tryz.sizeOf3
theorem fa83_2:FA Tryz.prog 83 2 2:=fa_of (n:=0) Tryz.underlying83 z z Tryz.sizeOf3
theorem fa94_3:FA Tryz.prog 94 3 3:=fa_of (n:=0) Tryz.underlying94 z z Tryz.sizeOf3
theorem fa83_3:FA Tryz.prog 83 3 3:=fa_of (n:=0) Tryz.underlying83 z z Tryz.sizeOf3
theorem fa94_4:FA Tryz.prog 94 4 4:=fa_of (n:=0) Tryz.underlying94 z z Tryz.sizeOf3
theorem fa83_4:FA Tryz.prog 83 4 4:=fa_of (n:=0) Tryz.underlying83 z z Tryz.sizeOf3
theorem fa94_5:FA Tryz.prog 94 5 5:=fa_of (n:=0) Tryz.underlying94 z z Tryz.sizeOf3
theorem fa83_5:FA Tryz.prog 83 5 5:=fa_of (n:=0) Tryz.underlying83 z z Tryz.sizeOf3
theorem fa94_6:FA Tryz.prog 94 6 6:=fa_of (n:=0) Tryz.underlying94 z z Tryz.sizeOf3
theorem fa83_6:FA Tryz.prog 83 6 6:=fa_of (n:=0) Tryz.underlying83 z z Tryz.sizeOf3
theorem ta83:TA Tryz.prog 83 7:=⟨Tryz.isAgg83,Tryz.sizeOf83⟩
theorem te38:TE Tryz.prog 38 7 56 [I 0,I 0,I 0,I 0,I 0,I 0,I 0]:=⟨83,Tryz.t83,Tryz.underlying38,Tryz.type83,⟨_,z,z⟩,z,z,z,by decide⟩
theorem ts26:TS Tryz.prog 26 7:=⟨94,Tryz.underlying26,Tryz.sizeOf94⟩
theorem ta94:TA Tryz.prog 94 7:=⟨Tryz.isAgg94,Tryz.sizeOf94⟩
theorem ts38:TS Tryz.prog 38 7:=⟨83,Tryz.underlying38,Tryz.sizeOf83⟩
theorem fa28_0:FA Tryz.prog 28 0 0:=fa_of (n:=0) Tryz.underlying28 z z Tryz.sizeOf3
theorem fa40_0:FA Tryz.prog 40 0 0:=fa_of (n:=0) Tryz.underlying40 z z Tryz.sizeOf3
theorem fa28_1:FA Tryz.prog 28 1 1:=fa_of (n:=3) Tryz.underlying28 z z Tryz.sizeOf23
theorem ta23:TA Tryz.prog 23 4:=⟨Tryz.isAgg23,Tryz.sizeOf23⟩
theorem fa40_1:FA Tryz.prog 40 1 1:=fa_of (n:=3) Tryz.underlying40 z z Tryz.sizeOf35
theorem fa28_2:FA Tryz.prog 28 2 5:=fa_of (n:=0) Tryz.underlying28 z z Tryz.sizeOf3
theorem fa40_2:FA Tryz.prog 40 2 5:=fa_of (n:=0) Tryz.underlying40 z z Tryz.sizeOf3
theorem fa40_3:FA Tryz.prog 40 3 6:=fa_of (n:=0) Tryz.underlying40 z z Tryz.sizeOf36
theorem fa40_4:FA Tryz.prog 40 4 7:=fa_of (n:=0) Tryz.underlying40 z z Tryz.sizeOf37
theorem fa28_5:FA Tryz.prog 28 5 8:=fa_of (n:=0) Tryz.underlying28 z z Tryz.sizeOf3
theorem fa40_5:FA Tryz.prog 40 5 8:=fa_of (n:=0) Tryz.underlying40 z z Tryz.sizeOf3
theorem fa40_6:FA Tryz.prog 40 6 9:=fa_of (n:=0) Tryz.underlying40 z z Tryz.sizeOf38
theorem ta40:TA Tryz.prog 40 10:=⟨Tryz.isAgg40,Tryz.sizeOf40⟩
theorem t136:T1 Tryz.prog 36:=⟨fun w=>by simp [isAgg,run_underlying Tryz.underlying36],Tryz.sizeOf36⟩
theorem t137:T1 Tryz.prog 37:=⟨fun w=>by simp [isAgg,run_underlying Tryz.underlying37],Tryz.sizeOf37⟩
theorem t138:T1 Tryz.prog 38:=⟨fun w=>by simp [isAgg,run_underlying Tryz.underlying38],Tryz.sizeOf38⟩
theorem bt58:BT Tryz.prog 58 [I 0,I 0,I 0,I 0,I 0,I 0,I 0] #[(0,1),(1,1),(2,1),(3,1),(4,1),(5,1),(6,1)]:=⟨Tryz.zeroValue58,_,Tryz.underlying58,fun w=>by simp [Tryz.sizeOf3]⟩
theorem te29:TE Tryz.prog 29 1 8 [I 0]:=⟨3,Tryz.t3,Tryz.underlying29,Tryz.type3,⟨_,z,z⟩,z,z,z,by decide⟩
theorem ts29:TS Tryz.prog 29 1:=⟨3,Tryz.underlying29,Tryz.sizeOf3⟩
theorem te47:TE Tryz.prog 47 1 24 [.slice none 0 0]:=⟨29,Tryz.t29,Tryz.underlying47,Tryz.type29,⟨_,z,z⟩,z,z,z,by decide⟩
theorem seq88:SEq Tryz.prog 88 Pair:=seqPair Tryz.underlying88 Tryz.stoodInHeld88 Tryz.eqGuardType88 Tryz.underlying3 z
theorem bt88:BT Tryz.prog 88 [I 0,I 0] #[(0,1),(1,1)]:=⟨Tryz.zeroValue88,_,Tryz.underlying88,fun w=>by simp [Tryz.sizeOf3]⟩
theorem ts47:TS Tryz.prog 47 1:=⟨29,Tryz.underlying47,Tryz.sizeOf29⟩
theorem t129:T1 Tryz.prog 29:=⟨fun w=>by simp [isAgg,run_underlying Tryz.underlying29],Tryz.sizeOf29⟩
theorem mkRequest {w:World} {x:Request} {F0 F1 F2:List Nat} {v0 v1 v2:Value} (h0:rd w F0 [v0] x.fPairs) (h1:rd w F1 [v1] x.fTypes) (h2:rd w F2 [v2] x.fItems):rd w (F0 ++ (F1 ++ F2)) [I x.fWay,I x.fPallet.fW,I x.fPallet.fD,I x.fPallet.fH,I x.fPallet.fGram,I x.fClasses,v0,v1,I x.fMaster,v2] x:=⟨_,_,_,_,_,_,rfl,rfl,h0,h1,h2⟩
abbrev cR (x:Request) (a b c:Value):List Value:=[I x.fWay,I x.fPallet.fW,I x.fPallet.fD,I x.fPallet.fH,I x.fPallet.fGram,I x.fClasses,a,b,I x.fMaster,c]
end Go.Proofs.YtcboeijpplllfaaGreat
