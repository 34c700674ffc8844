/- FnNoMix: facts on types of the functions that it reaches. Printed by gen.py. -/
import Derived.Test.YtkkfmjpbiimkbaaGreatNoMixBD
import Derived.Test.YtkkfmjpbiimkbaaGreatS9
import Derived.Test.YtkkfmjpbiimkbaaGreatS12
import Derived.Test.YtkkfmjpbiimkbaaGreatS15
import Derived.Test.YtkkfmjpbiimkbaaGreatS17
import Derived.Test.YtkkfmjpbiimkbaaGreatProg
import Derived.Test.YtkkfmjpbiimkbaaGreatS19
import Derived.Test.YtkkfmjpbiimkbaaGreatShelf
set_option maxRecDepth 20000
set_option linter.unusedSimpArgs false
set_option linter.unusedVariables false
set_option linter.unnecessarySimpa false
namespace Go.Proofs.YtkkfmjpbiimkbaaGreat
open Go Go.RowKit
open Enc (rd ow)
open Arg (argv)
open Ret (retv)
open Go.Proofs.Tryz

theorem mixo:Tryz.prog.follows .mixedOrders = true:=by kernel_rfl
theorem ts73:TS Tryz.prog 73 1:=⟨5,Tryz.underlying73,Tryz.sizeOf5⟩
theorem t15:T1 Tryz.prog 5:=⟨fun w=>by simp [isAgg,run_underlying Tryz.underlying5],Tryz.sizeOf5⟩
theorem bt250:BT Tryz.prog 250 [.slice none 0 0,I 0,I 0] #[(0,1),(1,1),(2,1)]:=⟨Tryz.zeroValue250,_,Tryz.underlying250,fun w=>by simp [Tryz.sizeOf3,Tryz.sizeOf73]⟩
theorem fa250_2:FA Tryz.prog 250 2 2:=fa_of (n:=0) Tryz.underlying250 z z Tryz.sizeOf3
theorem t13:T1 Tryz.prog 3:=⟨fun w=>by simp [isAgg,run_underlying Tryz.underlying3],Tryz.sizeOf3⟩
theorem fa250_1:FA Tryz.prog 250 1 1:=fa_of (n:=0) Tryz.underlying250 z z Tryz.sizeOf3
theorem fa250_0:FA Tryz.prog 250 0 0:=fa_of (n:=0) Tryz.underlying250 z z Tryz.sizeOf73
theorem t173:T1 Tryz.prog 73:=⟨fun w=>by simp [isAgg,run_underlying Tryz.underlying73],Tryz.sizeOf73⟩
theorem ts63:TS Tryz.prog 63 1:=⟨3,Tryz.underlying63,Tryz.sizeOf3⟩
theorem te63:TE Tryz.prog 63 1 8 [I 0]:=⟨3,Tryz.t3,Tryz.underlying63,Tryz.type3,⟨_,z,z⟩,z,z,z,by decide⟩
theorem bt33:BT Tryz.prog 33 [I 0,I 0,I 0,I 0] #[(0,1),(1,1),(2,1),(3,1)]:=⟨Tryz.zeroValue33,_,Tryz.underlying33,fun w=>by simp [Tryz.sizeOf3]⟩
theorem bt38:BT Tryz.prog 38 [I 0,I 0,I 0,I 0,I 0,I 0,.slice none 0 0,.slice none 0 0,I 0,.slice none 0 0] #[(0,1),(1,4),(5,1),(6,1),(7,1),(8,1),(9,1)]:=⟨Tryz.zeroValue38,_,Tryz.underlying38,fun w=>by simp [Tryz.sizeOf3,Tryz.sizeOf33,Tryz.sizeOf34,Tryz.sizeOf35,Tryz.sizeOf36]⟩
theorem fa38_2:FA Tryz.prog 38 2 5:=fa_of (n:=0) Tryz.underlying38 z z Tryz.sizeOf3
theorem fa38_3:FA Tryz.prog 38 3 6:=fa_of (n:=0) Tryz.underlying38 z z Tryz.sizeOf34
theorem t134:T1 Tryz.prog 34:=⟨fun w=>by simp [isAgg,run_underlying Tryz.underlying34],Tryz.sizeOf34⟩
theorem bt180:BT Tryz.prog 180 [I 0,I 0] #[(0,1),(1,1)]:=⟨Tryz.zeroValue180,_,Tryz.underlying180,fun w=>by simp [Tryz.sizeOf3]⟩
theorem te34:TE Tryz.prog 34 2 16 [I 0,I 0]:=⟨180,Tryz.t180,Tryz.underlying34,Tryz.type180,⟨_,z,z⟩,z,z,z,by decide⟩
theorem fa38_4:FA Tryz.prog 38 4 7:=fa_of (n:=0) Tryz.underlying38 z z Tryz.sizeOf35
theorem t135:T1 Tryz.prog 35:=⟨fun w=>by simp [isAgg,run_underlying Tryz.underlying35],Tryz.sizeOf35⟩
theorem bt79:BT Tryz.prog 79 [I 0,I 0,I 0,I 0,I 0,I 0,I 0] #[(0,1),(1,1),(2,1),(3,1),(4,1),(5,1),(6,1)]:=⟨Tryz.zeroValue79,_,Tryz.underlying79,fun w=>by simp [Tryz.sizeOf3]⟩
theorem te35:TE Tryz.prog 35 7 56 [I 0,I 0,I 0,I 0,I 0,I 0,I 0]:=⟨79,Tryz.t79,Tryz.underlying35,Tryz.type79,⟨_,z,z⟩,z,z,z,by decide⟩
theorem bt158:BT Tryz.prog 158 [I 0,I 0,I 0,I 0,I 0,I 0,I 0] #[(0,1),(1,1),(2,1),(3,1),(4,1),(5,1),(6,1)]:=⟨Tryz.zeroValue158,_,Tryz.underlying158,fun w=>by simp [Tryz.sizeOf3]⟩
theorem fa158_1:FA Tryz.prog 158 1 1:=fa_of (n:=0) Tryz.underlying158 z z Tryz.sizeOf3
theorem fa158_2:FA Tryz.prog 158 2 2:=fa_of (n:=0) Tryz.underlying158 z z Tryz.sizeOf3
theorem fa158_3:FA Tryz.prog 158 3 3:=fa_of (n:=0) Tryz.underlying158 z z Tryz.sizeOf3
theorem fa158_6:FA Tryz.prog 158 6 6:=fa_of (n:=0) Tryz.underlying158 z z Tryz.sizeOf3
theorem fa38_6:FA Tryz.prog 38 6 9:=fa_of (n:=0) Tryz.underlying38 z z Tryz.sizeOf36
theorem t136:T1 Tryz.prog 36:=⟨fun w=>by simp [isAgg,run_underlying Tryz.underlying36],Tryz.sizeOf36⟩
theorem ta158:TA Tryz.prog 158 7:=⟨Tryz.isAgg158,Tryz.sizeOf158⟩
theorem te36:TE Tryz.prog 36 7 56 [I 0,I 0,I 0,I 0,I 0,I 0,I 0]:=⟨158,Tryz.t158,Tryz.underlying36,Tryz.type158,⟨_,z,z⟩,z,z,z,by decide⟩
theorem ta38:TA Tryz.prog 38 10:=⟨Tryz.isAgg38,Tryz.sizeOf38⟩
theorem fa33_0:FA Tryz.prog 33 0 0:=fa_of (n:=0) Tryz.underlying33 z z Tryz.sizeOf3
theorem fa33_1:FA Tryz.prog 33 1 1:=fa_of (n:=0) Tryz.underlying33 z z Tryz.sizeOf3
theorem fa33_2:FA Tryz.prog 33 2 2:=fa_of (n:=0) Tryz.underlying33 z z Tryz.sizeOf3
theorem fa33_3:FA Tryz.prog 33 3 3:=fa_of (n:=0) Tryz.underlying33 z z Tryz.sizeOf3
theorem fa79_0:FA Tryz.prog 79 0 0:=fa_of (n:=0) Tryz.underlying79 z z Tryz.sizeOf3
theorem fa79_1:FA Tryz.prog 79 1 1:=fa_of (n:=0) Tryz.underlying79 z z Tryz.sizeOf3
theorem fa79_2:FA Tryz.prog 79 2 2:=fa_of (n:=0) Tryz.underlying79 z z Tryz.sizeOf3
theorem fa79_3:FA Tryz.prog 79 3 3:=fa_of (n:=0) Tryz.underlying79 z z Tryz.sizeOf3
theorem fa79_4:FA Tryz.prog 79 4 4:=fa_of (n:=0) Tryz.underlying79 z z Tryz.sizeOf3
theorem fa79_5:FA Tryz.prog 79 5 5:=fa_of (n:=0) Tryz.underlying79 z z Tryz.sizeOf3
theorem fa79_6:FA Tryz.prog 79 6 6:=fa_of (n:=0) Tryz.underlying79 z z Tryz.sizeOf3
theorem fa158_0:FA Tryz.prog 158 0 0:=fa_of (n:=0) Tryz.underlying158 z z Tryz.sizeOf3
theorem fa158_4:FA Tryz.prog 158 4 4:=fa_of (n:=0) Tryz.underlying158 z z Tryz.sizeOf3
theorem fa158_5:FA Tryz.prog 158 5 5:=fa_of (n:=0) Tryz.underlying158 z z Tryz.sizeOf3
theorem fa38_0:FA Tryz.prog 38 0 0:=fa_of (n:=0) Tryz.underlying38 z z Tryz.sizeOf3
theorem fa38_1:FA Tryz.prog 38 1 1:=fa_of (n:=3) Tryz.underlying38 z z Tryz.sizeOf33
theorem ta33:TA Tryz.prog 33 4:=⟨Tryz.isAgg33,Tryz.sizeOf33⟩
theorem fa38_5:FA Tryz.prog 38 5 8:=fa_of (n:=0) Tryz.underlying38 z z Tryz.sizeOf3
theorem ts34:TS Tryz.prog 34 2:=⟨180,Tryz.underlying34,Tryz.sizeOf180⟩
theorem fa180_0:FA Tryz.prog 180 0 0:=fa_of (n:=0) Tryz.underlying180 z z Tryz.sizeOf3
theorem fa180_1:FA Tryz.prog 180 1 1:=fa_of (n:=0) Tryz.underlying180 z z Tryz.sizeOf3
theorem ts35:TS Tryz.prog 35 7:=⟨79,Tryz.underlying35,Tryz.sizeOf79⟩
theorem ta79:TA Tryz.prog 79 7:=⟨Tryz.isAgg79,Tryz.sizeOf79⟩
theorem ts36:TS Tryz.prog 36 7:=⟨158,Tryz.underlying36,Tryz.sizeOf158⟩
theorem bt224:BT Tryz.prog 224 [I 0,I 0] #[(0,1),(1,1)]:=⟨Tryz.zeroValue224,_,Tryz.underlying224,fun w=>by simp [Tryz.sizeOf3]⟩
theorem fa224_0:FA Tryz.prog 224 0 0:=fa_of (n:=0) Tryz.underlying224 z z Tryz.sizeOf3
theorem fa224_1:FA Tryz.prog 224 1 1:=fa_of (n:=0) Tryz.underlying224 z z Tryz.sizeOf3
theorem ta224:TA Tryz.prog 224 2:=⟨Tryz.isAgg224,Tryz.sizeOf224⟩
theorem te29:TE Tryz.prog 29 1 24 [.slice none 0 0]:=⟨63,Tryz.t63,Tryz.underlying29,Tryz.type63,⟨_,z,z⟩,z,z,z,by decide⟩
theorem ts29:TS Tryz.prog 29 1:=⟨63,Tryz.underlying29,Tryz.sizeOf63⟩
theorem t163:T1 Tryz.prog 63:=⟨fun w=>by simp [isAgg,run_underlying Tryz.underlying63],Tryz.sizeOf63⟩
theorem ta180:TA Tryz.prog 180 2:=⟨Tryz.isAgg180,Tryz.sizeOf180⟩
theorem seq180:SEq Tryz.prog 180 Pair:=seqPair Tryz.underlying180 Tryz.stoodInHeld180 Tryz.eqGuardType180 Tryz.underlying3 z
theorem t129:T1 Tryz.prog 29:=⟨fun w=>by simp [isAgg,run_underlying Tryz.underlying29],Tryz.sizeOf29⟩
end Go.Proofs.YtkkfmjpbiimkbaaGreat
