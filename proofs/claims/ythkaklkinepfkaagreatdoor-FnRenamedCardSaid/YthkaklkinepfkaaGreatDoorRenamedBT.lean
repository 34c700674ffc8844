/- FnRenamed: facts on types of the functions that it reaches. Printed by gen.py. -/
import Derived.Test.YthkaklkinepfkaaGreatDoorRenamedBD
import Derived.Test.YthkaklkinepfkaaGreatDoorS15
import Derived.Test.YthkaklkinepfkaaGreatDoorS11
import Derived.Test.YthkaklkinepfkaaGreatDoorS22
import Derived.Test.YthkaklkinepfkaaGreatDoorProg
import Derived.Test.YthkaklkinepfkaaGreatDoorShelf
set_option maxRecDepth 20000
set_option linter.unusedSimpArgs false
set_option linter.unusedVariables false
set_option linter.unnecessarySimpa false
namespace Go.Proofs.YthkaklkinepfkaaGreatDoor
open Go Go.RowKit
open Enc (rd ow)
open Arg (argv)
open Ret (retv)
open Go.Proofs.Tryz

theorem mixo:Tryz.prog.follows .mixedOrders = true:=by kernel_rfl
theorem ts22:TS Tryz.prog 22 1:=⟨5,Tryz.underlying22,Tryz.sizeOf5⟩
theorem t15:T1 Tryz.prog 5:=⟨fun w=>by simp [isAgg,run_underlying Tryz.underlying5],Tryz.sizeOf5⟩
theorem bt106:BT Tryz.prog 106 [.slice none 0 0,I 0,I 0] #[(0,1),(1,1),(2,1)]:=⟨Tryz.zeroValue106,_,Tryz.underlying106,fun w=>by simp [Tryz.sizeOf22,Tryz.sizeOf3]⟩
theorem fa106_2:FA Tryz.prog 106 2 2:=fa_of (n:=0) Tryz.underlying106 z z Tryz.sizeOf3
theorem t13:T1 Tryz.prog 3:=⟨fun w=>by simp [isAgg,run_underlying Tryz.underlying3],Tryz.sizeOf3⟩
theorem fa106_1:FA Tryz.prog 106 1 1:=fa_of (n:=0) Tryz.underlying106 z z Tryz.sizeOf3
theorem fa106_0:FA Tryz.prog 106 0 0:=fa_of (n:=0) Tryz.underlying106 z z Tryz.sizeOf22
theorem t122:T1 Tryz.prog 22:=⟨fun w=>by simp [isAgg,run_underlying Tryz.underlying22],Tryz.sizeOf22⟩
theorem ts35:TS Tryz.prog 35 1:=⟨3,Tryz.underlying35,Tryz.sizeOf3⟩
theorem te35:TE Tryz.prog 35 1 8 [I 0]:=⟨3,Tryz.t3,Tryz.underlying35,Tryz.type3,⟨_,z,z⟩,z,z,z,by decide⟩
theorem bt50:BT Tryz.prog 50 [I 0,I 0,I 0,I 0] #[(0,1),(1,1),(2,1),(3,1)]:=⟨Tryz.zeroValue50,_,Tryz.underlying50,fun w=>by simp [Tryz.sizeOf3]⟩
theorem bt55:BT Tryz.prog 55 [I 0,I 0,I 0,I 0,I 0,I 0,.slice none 0 0,.slice none 0 0,I 0,.slice none 0 0] #[(0,1),(1,4),(5,1),(6,1),(7,1),(8,1),(9,1)]:=⟨Tryz.zeroValue55,_,Tryz.underlying55,fun w=>by simp [Tryz.sizeOf3,Tryz.sizeOf50,Tryz.sizeOf51,Tryz.sizeOf52,Tryz.sizeOf53]⟩
theorem fa55_2:FA Tryz.prog 55 2 5:=fa_of (n:=0) Tryz.underlying55 z z Tryz.sizeOf3
theorem fa55_3:FA Tryz.prog 55 3 6:=fa_of (n:=0) Tryz.underlying55 z z Tryz.sizeOf51
theorem t151:T1 Tryz.prog 51:=⟨fun w=>by simp [isAgg,run_underlying Tryz.underlying51],Tryz.sizeOf51⟩
theorem bt98:BT Tryz.prog 98 [I 0,I 0] #[(0,1),(1,1)]:=⟨Tryz.zeroValue98,_,Tryz.underlying98,fun w=>by simp [Tryz.sizeOf3]⟩
theorem te51:TE Tryz.prog 51 2 16 [I 0,I 0]:=⟨98,Tryz.t98,Tryz.underlying51,Tryz.type98,⟨_,z,z⟩,z,z,z,by decide⟩
theorem fa55_4:FA Tryz.prog 55 4 7:=fa_of (n:=0) Tryz.underlying55 z z Tryz.sizeOf52
theorem t152:T1 Tryz.prog 52:=⟨fun w=>by simp [isAgg,run_underlying Tryz.underlying52],Tryz.sizeOf52⟩
theorem bt61:BT Tryz.prog 61 [I 0,I 0,I 0,I 0,I 0,I 0,I 0] #[(0,1),(1,1),(2,1),(3,1),(4,1),(5,1),(6,1)]:=⟨Tryz.zeroValue61,_,Tryz.underlying61,fun w=>by simp [Tryz.sizeOf3]⟩
theorem te52:TE Tryz.prog 52 7 56 [I 0,I 0,I 0,I 0,I 0,I 0,I 0]:=⟨61,Tryz.t61,Tryz.underlying52,Tryz.type61,⟨_,z,z⟩,z,z,z,by decide⟩
theorem bt59:BT Tryz.prog 59 [I 0,I 0,I 0,I 0,I 0,I 0,I 0] #[(0,1),(1,1),(2,1),(3,1),(4,1),(5,1),(6,1)]:=⟨Tryz.zeroValue59,_,Tryz.underlying59,fun w=>by simp [Tryz.sizeOf3]⟩
theorem fa59_1:FA Tryz.prog 59 1 1:=fa_of (n:=0) Tryz.underlying59 z z Tryz.sizeOf3
theorem fa59_2:FA Tryz.prog 59 2 2:=fa_of (n:=0) Tryz.underlying59 z z Tryz.sizeOf3
theorem fa59_3:FA Tryz.prog 59 3 3:=fa_of (n:=0) Tryz.underlying59 z z Tryz.sizeOf3
theorem fa59_6:FA Tryz.prog 59 6 6:=fa_of (n:=0) Tryz.underlying59 z z Tryz.sizeOf3
theorem fa55_6:FA Tryz.prog 55 6 9:=fa_of (n:=0) Tryz.underlying55 z z Tryz.sizeOf53
theorem t153:T1 Tryz.prog 53:=⟨fun w=>by simp [isAgg,run_underlying Tryz.underlying53],Tryz.sizeOf53⟩
theorem ta59:TA Tryz.prog 59 7:=⟨Tryz.isAgg59,Tryz.sizeOf59⟩
theorem te53:TE Tryz.prog 53 7 56 [I 0,I 0,I 0,I 0,I 0,I 0,I 0]:=⟨59,Tryz.t59,Tryz.underlying53,Tryz.type59,⟨_,z,z⟩,z,z,z,by decide⟩
theorem ta55:TA Tryz.prog 55 10:=⟨Tryz.isAgg55,Tryz.sizeOf55⟩
theorem fa50_0:FA Tryz.prog 50 0 0:=fa_of (n:=0) Tryz.underlying50 z z Tryz.sizeOf3
theorem fa50_1:FA Tryz.prog 50 1 1:=fa_of (n:=0) Tryz.underlying50 z z Tryz.sizeOf3
theorem fa50_2:FA Tryz.prog 50 2 2:=fa_of (n:=0) Tryz.underlying50 z z Tryz.sizeOf3
theorem fa50_3:FA Tryz.prog 50 3 3:=fa_of (n:=0) Tryz.underlying50 z z Tryz.sizeOf3
theorem fa61_0:FA Tryz.prog 61 0 0:=fa_of (n:=0) Tryz.underlying61 z z Tryz.sizeOf3
theorem fa61_1:FA Tryz.prog 61 1 1:=fa_of (n:=0) Tryz.underlying61 z z Tryz.sizeOf3
theorem fa61_2:FA Tryz.prog 61 2 2:=fa_of (n:=0) Tryz.underlying61 z z Tryz.sizeOf3
theorem fa61_3:FA Tryz.prog 61 3 3:=fa_of (n:=0) Tryz.underlying61 z z Tryz.sizeOf3
theorem fa61_4:FA Tryz.prog 61 4 4:=fa_of (n:=0) Tryz.underlying61 z z Tryz.sizeOf3
theorem fa61_5:FA Tryz.prog 61 5 5:=fa_of (n:=0) Tryz.underlying61 z z Tryz.sizeOf3
theorem fa61_6:FA Tryz.prog 61 6 6:=fa_of (n:=0) Tryz.underlying61 z z Tryz.sizeOf3
theorem fa59_0:FA Tryz.prog 59 0 0:=fa_of (n:=0) Tryz.underlying59 z z Tryz.sizeOf3
theorem fa59_4:FA Tryz.prog 59 4 4:=fa_of (n:=0) Tryz.underlying59 z z Tryz.sizeOf3
theorem fa59_5:FA Tryz.prog 59 5 5:=fa_of (n:=0) Tryz.underlying59 z z Tryz.sizeOf3
theorem fa55_0:FA Tryz.prog 55 0 0:=fa_of (n:=0) Tryz.underlying55 z z Tryz.sizeOf3
theorem fa55_1:FA Tryz.prog 55 1 1:=fa_of (n:=3) Tryz.underlying55 z z Tryz.sizeOf50
theorem ta50:TA Tryz.prog 50 4:=⟨Tryz.isAgg50,Tryz.sizeOf50⟩
theorem fa55_5:FA Tryz.prog 55 5 8:=fa_of (n:=0) Tryz.underlying55 z z Tryz.sizeOf3
theorem ts51:TS Tryz.prog 51 2:=⟨98,Tryz.underlying51,Tryz.sizeOf98⟩
theorem fa98_0:FA Tryz.prog 98 0 0:=fa_of (n:=0) Tryz.underlying98 z z Tryz.sizeOf3
theorem fa98_1:FA Tryz.prog 98 1 1:=fa_of (n:=0) Tryz.underlying98 z z Tryz.sizeOf3
theorem ts52:TS Tryz.prog 52 7:=⟨61,Tryz.underlying52,Tryz.sizeOf61⟩
theorem ta61:TA Tryz.prog 61 7:=⟨Tryz.isAgg61,Tryz.sizeOf61⟩
theorem ts53:TS Tryz.prog 53 7:=⟨59,Tryz.underlying53,Tryz.sizeOf59⟩
theorem ta98:TA Tryz.prog 98 2:=⟨Tryz.isAgg98,Tryz.sizeOf98⟩
theorem seq98:SEq Tryz.prog 98 Pair:=seqPair Tryz.underlying98 Tryz.stoodInHeld98 Tryz.eqGuardType98 Tryz.underlying3 z
theorem ts88:TS Tryz.prog 88 1:=⟨35,Tryz.underlying88,Tryz.sizeOf35⟩
theorem t135:T1 Tryz.prog 35:=⟨fun w=>by simp [isAgg,run_underlying Tryz.underlying35],Tryz.sizeOf35⟩
theorem te88:TE Tryz.prog 88 1 24 [.slice none 0 0]:=⟨35,Tryz.t35,Tryz.underlying88,Tryz.type35,⟨_,z,z⟩,z,z,z,by decide⟩
theorem te24:TE Tryz.prog 24 3 40 [I 0,I 0,.slice none 0 0]:=⟨37,Tryz.t37,Tryz.underlying24,Tryz.type37,⟨_,z,z⟩,z,z,z,by decide⟩
theorem bt37:BT Tryz.prog 37 [I 0,I 0,.slice none 0 0] #[(0,1),(1,1),(2,1)]:=⟨Tryz.zeroValue37,_,Tryz.underlying37,fun w=>by simp [Tryz.sizeOf3,Tryz.sizeOf35]⟩
theorem fa37_0:FA Tryz.prog 37 0 0:=fa_of (n:=0) Tryz.underlying37 z z Tryz.sizeOf3
theorem fa37_2:FA Tryz.prog 37 2 2:=fa_of (n:=0) Tryz.underlying37 z z Tryz.sizeOf35
theorem bt91:BT Tryz.prog 91 [I 0,I 0,I 0,I 0] #[(0,1),(1,1),(2,1),(3,1)]:=⟨Tryz.zeroValue91,_,Tryz.underlying91,fun w=>by simp [Tryz.sizeOf3]⟩
theorem ta37:TA Tryz.prog 37 3:=⟨Tryz.isAgg37,Tryz.sizeOf37⟩
theorem ta91:TA Tryz.prog 91 4:=⟨Tryz.isAgg91,Tryz.sizeOf91⟩
theorem fa91_0:FA Tryz.prog 91 0 0:=fa_of (n:=0) Tryz.underlying91 z z Tryz.sizeOf3
theorem fa91_1:FA Tryz.prog 91 1 1:=fa_of (n:=0) Tryz.underlying91 z z Tryz.sizeOf3
theorem fa91_2:FA Tryz.prog 91 2 2:=fa_of (n:=0) Tryz.underlying91 z z Tryz.sizeOf3
theorem fa91_3:FA Tryz.prog 91 3 3:=fa_of (n:=0) Tryz.underlying91 z z Tryz.sizeOf3
theorem ts90:TS Tryz.prog 90 4:=⟨91,Tryz.underlying90,Tryz.sizeOf91⟩
theorem te129:TE Tryz.prog 129 5 56 [.slice none 0 0,I 0,I 0,I 0,I 0]:=⟨140,Tryz.t140,Tryz.underlying129,Tryz.type140,⟨_,z,z⟩,z,z,z,by decide⟩
theorem ts129:TS Tryz.prog 129 5:=⟨140,Tryz.underlying129,Tryz.sizeOf140⟩
theorem fa140_1:FA Tryz.prog 140 1 1:=fa_of (n:=0) Tryz.underlying140 z z Tryz.sizeOf3
theorem fa140_4:FA Tryz.prog 140 4 4:=fa_of (n:=0) Tryz.underlying140 z z Tryz.sizeOf3
theorem bt140:BT Tryz.prog 140 [.slice none 0 0,I 0,I 0,I 0,I 0] #[(0,1),(1,1),(2,1),(3,1),(4,1)]:=⟨Tryz.zeroValue140,_,Tryz.underlying140,fun w=>by simp [Tryz.sizeOf3,Tryz.sizeOf35]⟩
theorem fa140_0:FA Tryz.prog 140 0 0:=fa_of (n:=0) Tryz.underlying140 z z Tryz.sizeOf35
theorem fa140_2:FA Tryz.prog 140 2 2:=fa_of (n:=0) Tryz.underlying140 z z Tryz.sizeOf3
theorem fa140_3:FA Tryz.prog 140 3 3:=fa_of (n:=0) Tryz.underlying140 z z Tryz.sizeOf3
theorem ta140:TA Tryz.prog 140 5:=⟨Tryz.isAgg140,Tryz.sizeOf140⟩
theorem te131:TE Tryz.prog 131 4 48 [.slice none 0 0,I 0,I 0,I 0]:=⟨138,Tryz.t138,Tryz.underlying131,Tryz.type138,⟨_,z,z⟩,z,z,z,by decide⟩
theorem ts131:TS Tryz.prog 131 4:=⟨138,Tryz.underlying131,Tryz.sizeOf138⟩
theorem fa138_1:FA Tryz.prog 138 1 1:=fa_of (n:=0) Tryz.underlying138 z z Tryz.sizeOf3
theorem fa138_3:FA Tryz.prog 138 3 3:=fa_of (n:=0) Tryz.underlying138 z z Tryz.sizeOf3
theorem bt138:BT Tryz.prog 138 [.slice none 0 0,I 0,I 0,I 0] #[(0,1),(1,1),(2,1),(3,1)]:=⟨Tryz.zeroValue138,_,Tryz.underlying138,fun w=>by simp [Tryz.sizeOf3,Tryz.sizeOf35]⟩
theorem fa138_0:FA Tryz.prog 138 0 0:=fa_of (n:=0) Tryz.underlying138 z z Tryz.sizeOf35
theorem fa138_2:FA Tryz.prog 138 2 2:=fa_of (n:=0) Tryz.underlying138 z z Tryz.sizeOf3
theorem ta138:TA Tryz.prog 138 4:=⟨Tryz.isAgg138,Tryz.sizeOf138⟩
theorem te133:TE Tryz.prog 133 3 40 [.slice none 0 0,I 0,I 0]:=⟨136,Tryz.t136,Tryz.underlying133,Tryz.type136,⟨_,z,z⟩,z,z,z,by decide⟩
theorem ts133:TS Tryz.prog 133 3:=⟨136,Tryz.underlying133,Tryz.sizeOf136⟩
theorem fa136_1:FA Tryz.prog 136 1 1:=fa_of (n:=0) Tryz.underlying136 z z Tryz.sizeOf3
theorem fa136_2:FA Tryz.prog 136 2 2:=fa_of (n:=0) Tryz.underlying136 z z Tryz.sizeOf3
theorem bt136:BT Tryz.prog 136 [.slice none 0 0,I 0,I 0] #[(0,1),(1,1),(2,1)]:=⟨Tryz.zeroValue136,_,Tryz.underlying136,fun w=>by simp [Tryz.sizeOf3,Tryz.sizeOf35]⟩
theorem fa136_0:FA Tryz.prog 136 0 0:=fa_of (n:=0) Tryz.underlying136 z z Tryz.sizeOf35
theorem te25:TE Tryz.prog 25 4 32 [I 0,I 0,I 0,I 0]:=⟨39,Tryz.t39,Tryz.underlying25,Tryz.type39,⟨_,z,z⟩,z,z,z,by decide⟩
theorem ta136:TA Tryz.prog 136 3:=⟨Tryz.isAgg136,Tryz.sizeOf136⟩
theorem bt39:BT Tryz.prog 39 [I 0,I 0,I 0,I 0] #[(0,1),(1,1),(2,1),(3,1)]:=⟨Tryz.zeroValue39,_,Tryz.underlying39,fun w=>by simp [Tryz.sizeOf3]⟩
theorem ts25:TS Tryz.prog 25 4:=⟨39,Tryz.underlying25,Tryz.sizeOf39⟩
theorem ta39:TA Tryz.prog 39 4:=⟨Tryz.isAgg39,Tryz.sizeOf39⟩
theorem fa39_0:FA Tryz.prog 39 0 0:=fa_of (n:=0) Tryz.underlying39 z z Tryz.sizeOf3
theorem bt27:BT Tryz.prog 27 [.slice none 0 0,.slice none 0 0] #[(0,1),(1,1)]:=⟨Tryz.zeroValue27,_,Tryz.underlying27,fun w=>by simp [Tryz.sizeOf24,Tryz.sizeOf25]⟩
theorem ta27:TA Tryz.prog 27 2:=⟨Tryz.isAgg27,Tryz.sizeOf27⟩
theorem te90:TE Tryz.prog 90 4 32 [I 0,I 0,I 0,I 0]:=⟨91,Tryz.t91,Tryz.underlying90,Tryz.type91,⟨_,z,z⟩,z,z,z,by decide⟩
theorem fa27_0:FA Tryz.prog 27 0 0:=fa_of (n:=0) Tryz.underlying27 z z Tryz.sizeOf24
theorem t124:T1 Tryz.prog 24:=⟨fun w=>by simp [isAgg,run_underlying Tryz.underlying24],Tryz.sizeOf24⟩
theorem ts24:TS Tryz.prog 24 3:=⟨37,Tryz.underlying24,Tryz.sizeOf37⟩
theorem fa37_1:FA Tryz.prog 37 1 1:=fa_of (n:=0) Tryz.underlying37 z z Tryz.sizeOf3
theorem fa27_1:FA Tryz.prog 27 1 1:=fa_of (n:=0) Tryz.underlying27 z z Tryz.sizeOf25
theorem t125:T1 Tryz.prog 25:=⟨fun w=>by simp [isAgg,run_underlying Tryz.underlying25],Tryz.sizeOf25⟩
theorem bt201:BT Tryz.prog 201 [I 0,I 0] #[(0,1),(1,1)]:=⟨Tryz.zeroValue201,_,Tryz.underlying201,fun w=>by simp [Tryz.sizeOf3]⟩
theorem fa201_0:FA Tryz.prog 201 0 0:=fa_of (n:=0) Tryz.underlying201 z z Tryz.sizeOf3
theorem fa201_1:FA Tryz.prog 201 1 1:=fa_of (n:=0) Tryz.underlying201 z z Tryz.sizeOf3
theorem ta201:TA Tryz.prog 201 2:=⟨Tryz.isAgg201,Tryz.sizeOf201⟩
theorem fd201_0:FD Tryz.prog 201 0 0 1 false:=⟨_,_,Tryz.underlying201,z,z,(fun w=>by simp [isAgg,run_underlying Tryz.underlying3]),Tryz.sizeOf3⟩
theorem t14:T1 Tryz.prog 4:=⟨fun w=>by simp [isAgg,run_underlying Tryz.underlying4],Tryz.sizeOf4⟩
theorem t168:T1 Tryz.prog 68:=⟨fun w=>by simp [isAgg,run_underlying Tryz.underlying68],Tryz.sizeOf68⟩
theorem te68:TE Tryz.prog 68 1 16 [.string ⟨#[]⟩]:=⟨9,Tryz.t9,Tryz.underlying68,Tryz.type9,⟨_,z,z⟩,z,z,z,by decide⟩
theorem ts68:TS Tryz.prog 68 1:=⟨9,Tryz.underlying68,Tryz.sizeOf9⟩
theorem t19:T1 Tryz.prog 9:=⟨fun w=>by simp [isAgg,run_underlying Tryz.underlying9],Tryz.sizeOf9⟩
theorem fa39_1:FA Tryz.prog 39 1 1:=fa_of (n:=0) Tryz.underlying39 z z Tryz.sizeOf3
theorem fa39_2:FA Tryz.prog 39 2 2:=fa_of (n:=0) Tryz.underlying39 z z Tryz.sizeOf3
theorem fa39_3:FA Tryz.prog 39 3 3:=fa_of (n:=0) Tryz.underlying39 z z Tryz.sizeOf3
theorem mkRequest {w:World} {x:Request} {F0 F1 F2:List Nat} {v0 v1 v2:Value} (h0:rd w F0 [v0] x.fPairs) (h1:rd w F1 [v1] x.fTypes) (h2:rd w F2 [v2] x.fItems):rd w (F0 ++ (F1 ++ F2)) [I x.fWay,I x.fPallet.fW,I x.fPallet.fD,I x.fPallet.fH,I x.fPallet.fGram,I x.fClasses,v0,v1,I x.fMaster,v2] x:=⟨_,_,_,_,_,_,rfl,rfl,h0,h1,h2⟩
theorem mkCarton {w:World} {x:Carton} {F0:List Nat} {v0:Value} (h0:rd w F0 [v0] x.fUnits):rd w F0 [I x.fType,I x.fGroup,v0] x:=⟨_,_,rfl,rfl,h0⟩
theorem mkShelf {w:World} {x:Shelf} {F0:List Nat} {v0:Value} (h0:rd w F0 [v0] x.fList):rd w F0 [v0,I x.fW,I x.fD,I x.fH,I x.fGram] x:=⟨_,_,rfl,rfl,h0⟩
theorem mkLayer {w:World} {x:Layer} {F0:List Nat} {v0:Value} (h0:rd w F0 [v0] x.fShelves):rd w F0 [v0,I x.fD,I x.fH,I x.fGram] x:=⟨_,_,rfl,rfl,h0⟩
theorem mkPlan {w:World} {x:Plan} {F0 F1:List Nat} {v0 v1:Value} (h0:rd w F0 [v0] x.fCartons) (h1:rd w F1 [v1] x.fSpots):rd w (F0 ++ F1) [v0,v1] x:=⟨_,_,_,_,rfl,rfl,h0,h1⟩
abbrev cR (x:Request) (a b c:Value):List Value:=[I x.fWay,I x.fPallet.fW,I x.fPallet.fD,I x.fPallet.fH,I x.fPallet.fGram,I x.fClasses,a,b,I x.fMaster,c]
instance:Tys Tryz.prog where
 fa:=[(106,2,2),(106,1,1),(106,0,0),(55,2,5),(55,3,6),(55,4,7),(59,1,1),(59,2,2),(59,3,3),(59,6,6),(55,6,9),(50,0,0),(50,1,1),(50,2,2),(50,3,3),(61,0,0),(61,1,1),(61,2,2),(61,3,3),(61,4,4),(61,5,5),(61,6,6),(59,0,0),(59,4,4),(59,5,5),(55,0,0),(55,1,1),(55,5,8),(98,0,0),(98,1,1),(37,0,0),(37,2,2),(91,0,0),(91,1,1),(91,2,2),(91,3,3),(140,1,1),(140,4,4),(140,0,0),(140,2,2),(140,3,3),(138,1,1),(138,3,3),(138,0,0),(138,2,2),(136,1,1),(136,2,2),(136,0,0),(39,0,0),(27,0,0),(37,1,1),(27,1,1),(201,0,0),(201,1,1),(39,1,1),(39,2,2),(39,3,3)]
 hfa:=fC fa106_2 (fC fa106_1 (fC fa106_0 (fC fa55_2 (fC fa55_3 (fC fa55_4 (fC fa59_1 (fC fa59_2 (fC fa59_3 (fC fa59_6 (fC fa55_6 (fC fa50_0 (fC fa50_1 (fC fa50_2 (fC fa50_3 (fC fa61_0 (fC fa61_1 (fC fa61_2 (fC fa61_3 (fC fa61_4 (fC fa61_5 (fC fa61_6 (fC fa59_0 (fC fa59_4 (fC fa59_5 (fC fa55_0 (fC fa55_1 (fC fa55_5 (fC fa98_0 (fC fa98_1 (fC fa37_0 (fC fa37_2 (fC fa91_0 (fC fa91_1 (fC fa91_2 (fC fa91_3 (fC fa140_1 (fC fa140_4 (fC fa140_0 (fC fa140_2 (fC fa140_3 (fC fa138_1 (fC fa138_3 (fC fa138_0 (fC fa138_2 (fC fa136_1 (fC fa136_2 (fC fa136_0 (fC fa39_0 (fC fa27_0 (fC fa37_1 (fC fa27_1 (fC fa201_0 (fC fa201_1 (fC fa39_1 (fC fa39_2 (fC fa39_3 fN))))))))))))))))))))))))))))))))))))))))))))))))))))))))
 ts:=[(22,1),(35,1),(51,2),(52,7),(53,7),(88,1),(90,4),(129,5),(131,4),(133,3),(25,4),(24,3),(68,1)]
 hts:=fC ts22 (fC ts35 (fC ts51 (fC ts52 (fC ts53 (fC ts88 (fC ts90 (fC ts129 (fC ts131 (fC ts133 (fC ts25 (fC ts24 (fC ts68 fN))))))))))))
 t1:=[5,3,22,51,52,53,35,24,25,4,68,9]
 ht1:=fC t15 (fC t13 (fC t122 (fC t151 (fC t152 (fC t153 (fC t135 (fC t124 (fC t125 (fC t14 (fC t168 (fC t19 fN)))))))))))
 ta:=[(59,7),(55,10),(50,4),(61,7),(98,2),(37,3),(91,4),(39,4),(27,2),(201,2)]
 hta:=fC ta59 (fC ta55 (fC ta50 (fC ta61 (fC ta98 (fC ta37 (fC ta91 (fC ta39 (fC ta27 (fC ta201 fN)))))))))
 sl:=[22,24,25,35,51,52,53,68,88,90,129,131,133]
 hsl:=fC ⟨_,Tryz.underlying22⟩ (fC ⟨_,Tryz.underlying24⟩ (fC ⟨_,Tryz.underlying25⟩ (fC ⟨_,Tryz.underlying35⟩ (fC ⟨_,Tryz.underlying51⟩ (fC ⟨_,Tryz.underlying52⟩ (fC ⟨_,Tryz.underlying53⟩ (fC ⟨_,Tryz.underlying68⟩ (fC ⟨_,Tryz.underlying88⟩ (fC ⟨_,Tryz.underlying90⟩ (fC ⟨_,Tryz.underlying129⟩ (fC ⟨_,Tryz.underlying131⟩ (fC ⟨_,Tryz.underlying133⟩ fN))))))))))))
 hmx:=mixo

abbrev cS (n:Nat) (l:List Value) (u:World) (v:Value):Prop:=Calls Tryz.prog n l.toArray u fun e w=>e = .returned v ∧ Ext [] u w
abbrev cL {α:Type} [Enc α] (n:Nat) (l:List Value) (u:World) (r:α):Prop:=Calls Tryz.prog n l.toArray u fun e w=>∃ (v:Value) (G:List Nat),e = .returned v ∧ Ext [] u w ∧ ow w G [v] r ∧ ∀ b ∈ G,u.heap.size ≤ b
end Go.Proofs.YthkaklkinepfkaaGreatDoor
