/- FnDepths: facts on types of the functions that it reaches. Printed by gen.py. -/
import Derived.Test.YthddjkokpfdbnaaDepthsBD
import Derived.Test.YthddjkokpfdbnaaS9
import Derived.Test.YthddjkokpfdbnaaS12
import Derived.Test.YthddjkokpfdbnaaS15
import Derived.Test.YthddjkokpfdbnaaS17
import Derived.Test.YthddjkokpfdbnaaS20
import Derived.Test.YthddjkokpfdbnaaProg
set_option maxRecDepth 20000
set_option linter.unusedSimpArgs false
set_option linter.unusedVariables false
set_option linter.unnecessarySimpa false
namespace Go.Proofs.Ythddjkokpfdbnaa
open Go Go.RowKit
open Enc (rd ow)
open Arg (argv)
open Ret (retv)
open Go.Proofs.Try

theorem mixo:Try.prog.follows .mixedOrders = true:=by kernel_rfl
theorem ts22:TS Try.prog 22 1:=⟨5,Try.underlying22,Try.sizeOf5⟩
theorem t15:T1 Try.prog 5:=⟨fun w=>by simp [isAgg,run_underlying Try.underlying5],Try.sizeOf5⟩
theorem bt59:BT Try.prog 59 [.slice none 0 0,I 0,I 0] #[(0,1),(1,1),(2,1)]:=⟨Try.zeroValue59,_,Try.underlying59,fun w=>by simp [Try.sizeOf22,Try.sizeOf3]⟩
theorem fa59_2:FA Try.prog 59 2 2:=fa_of (n:=0) Try.underlying59 z z Try.sizeOf3
theorem t13:T1 Try.prog 3:=⟨fun w=>by simp [isAgg,run_underlying Try.underlying3],Try.sizeOf3⟩
theorem fa59_1:FA Try.prog 59 1 1:=fa_of (n:=0) Try.underlying59 z z Try.sizeOf3
theorem fa59_0:FA Try.prog 59 0 0:=fa_of (n:=0) Try.underlying59 z z Try.sizeOf22
theorem t122:T1 Try.prog 22:=⟨fun w=>by simp [isAgg,run_underlying Try.underlying22],Try.sizeOf22⟩
theorem ts43:TS Try.prog 43 1:=⟨3,Try.underlying43,Try.sizeOf3⟩
theorem te43:TE Try.prog 43 1 8 [I 0]:=⟨3,Try.t3,Try.underlying43,Try.type3,⟨_,z,z⟩,z,z,z,by decide⟩
theorem bt25:BT Try.prog 25 [I 0,I 0,I 0,I 0] #[(0,1),(1,1),(2,1),(3,1)]:=⟨Try.zeroValue25,_,Try.underlying25,fun w=>by simp [Try.sizeOf3]⟩
theorem te26:TE Try.prog 26 4 32 [I 0,I 0,I 0,I 0]:=⟨41,Try.t41,Try.underlying26,Try.type41,⟨_,z,z⟩,z,z,z,by decide⟩
theorem bt41:BT Try.prog 41 [I 0,I 0,I 0,I 0] #[(0,1),(1,1),(2,1),(3,1)]:=⟨Try.zeroValue41,_,Try.underlying41,fun w=>by simp [Try.sizeOf3]⟩
theorem fa25_0:FA Try.prog 25 0 0:=fa_of (n:=0) Try.underlying25 z z Try.sizeOf3
theorem ts26:TS Try.prog 26 4:=⟨41,Try.underlying26,Try.sizeOf41⟩
theorem fa41_0:FA Try.prog 41 0 0:=fa_of (n:=0) Try.underlying41 z z Try.sizeOf3
theorem fa25_1:FA Try.prog 25 1 1:=fa_of (n:=0) Try.underlying25 z z Try.sizeOf3
theorem ta25:TA Try.prog 25 4:=⟨Try.isAgg25,Try.sizeOf25⟩
theorem fa25_2:FA Try.prog 25 2 2:=fa_of (n:=0) Try.underlying25 z z Try.sizeOf3
theorem fa25_3:FA Try.prog 25 3 3:=fa_of (n:=0) Try.underlying25 z z Try.sizeOf3
theorem fa41_1:FA Try.prog 41 1 1:=fa_of (n:=0) Try.underlying41 z z Try.sizeOf3
theorem fa41_2:FA Try.prog 41 2 2:=fa_of (n:=0) Try.underlying41 z z Try.sizeOf3
theorem fa41_3:FA Try.prog 41 3 3:=fa_of (n:=0) Try.underlying41 z z Try.sizeOf3
theorem ta41:TA Try.prog 41 4:=⟨Try.isAgg41,Try.sizeOf41⟩
theorem t143:T1 Try.prog 43:=⟨fun w=>by simp [isAgg,run_underlying Try.underlying43],Try.sizeOf43⟩
theorem te31:TE Try.prog 31 5 56 [.slice none 0 0,I 0,I 0,I 0,I 0]:=⟨46,Try.t46,Try.underlying31,Try.type46,⟨_,z,z⟩,z,z,z,by decide⟩
theorem ts31:TS Try.prog 31 5:=⟨46,Try.underlying31,Try.sizeOf46⟩
theorem fa46_1:FA Try.prog 46 1 1:=fa_of (n:=0) Try.underlying46 z z Try.sizeOf3
theorem fa46_4:FA Try.prog 46 4 4:=fa_of (n:=0) Try.underlying46 z z Try.sizeOf3
theorem bt46:BT Try.prog 46 [.slice none 0 0,I 0,I 0,I 0,I 0] #[(0,1),(1,1),(2,1),(3,1),(4,1)]:=⟨Try.zeroValue46,_,Try.underlying46,fun w=>by simp [Try.sizeOf3,Try.sizeOf43]⟩
theorem fa46_0:FA Try.prog 46 0 0:=fa_of (n:=0) Try.underlying46 z z Try.sizeOf43
theorem fa46_2:FA Try.prog 46 2 2:=fa_of (n:=0) Try.underlying46 z z Try.sizeOf3
theorem fa46_3:FA Try.prog 46 3 3:=fa_of (n:=0) Try.underlying46 z z Try.sizeOf3
theorem ta46:TA Try.prog 46 5:=⟨Try.isAgg46,Try.sizeOf46⟩
theorem te33:TE Try.prog 33 4 48 [.slice none 0 0,I 0,I 0,I 0]:=⟨50,Try.t50,Try.underlying33,Try.type50,⟨_,z,z⟩,z,z,z,by decide⟩
theorem ts33:TS Try.prog 33 4:=⟨50,Try.underlying33,Try.sizeOf50⟩
theorem fa50_1:FA Try.prog 50 1 1:=fa_of (n:=0) Try.underlying50 z z Try.sizeOf3
theorem fa50_3:FA Try.prog 50 3 3:=fa_of (n:=0) Try.underlying50 z z Try.sizeOf3
theorem bt50:BT Try.prog 50 [.slice none 0 0,I 0,I 0,I 0] #[(0,1),(1,1),(2,1),(3,1)]:=⟨Try.zeroValue50,_,Try.underlying50,fun w=>by simp [Try.sizeOf3,Try.sizeOf43]⟩
theorem fa50_0:FA Try.prog 50 0 0:=fa_of (n:=0) Try.underlying50 z z Try.sizeOf43
theorem fa50_2:FA Try.prog 50 2 2:=fa_of (n:=0) Try.underlying50 z z Try.sizeOf3
theorem mkShelf {w:World} {x:Shelf} {F0:List Nat} {v0:Value} (h0:rd w F0 [v0] x.fList):rd w F0 [v0,I x.fW,I x.fD,I x.fH,I x.fGram] x:=⟨_,_,rfl,rfl,h0⟩
end Go.Proofs.Ythddjkokpfdbnaa
