/- FnPackText: facts on.. -/
import Derived.Test.YthkaklkinepfkaaGreatDoorPackTextBD
import Derived.Test.YthkaklkinepfkaaGreatDoorS15
import Derived.Test.YthkaklkinepfkaaGreatDoorS12
import Derived.Test.YthkaklkinepfkaaGreatDoorS26
import Derived.Test.YthkaklkinepfkaaGreatDoorProg
import Derived.Test.YthkaklkinepfkaaGreatDoorShelf
set_option maxRecDepth 20000
set_option linter.unusedSimpArgs false
set_option linter.unusedVariables false
set_option linter.unnecessarySimpa false
namespace Go.Proofs.YthkaklkinepfkaaGreatDoor
open Go Go.RowKit
open Enc (rd ow)
open Arg (argv)
open Ret (retv)
open Go.Proofs.Tryz

theorem Qge:Tryz.prog.follows .mixedOrders=true:=by kernel_rfl
theorem Jho:TS Tryz.prog 22 1:=⟨5,Tryz.underlying22,Tryz.sizeOf5⟩
theorem t15:T1 Tryz.prog 5:=⟨λw=>by simp [isAgg,run_underlying Tryz.underlying5],Tryz.sizeOf5⟩
theorem Jjs:BT Tryz.prog 106 [.slice none 0 0,I 0,I 0] #[(0,1),(1,1),(2,1)]:=⟨Tryz.zeroValue106,_,Tryz.underlying106,λw=>by simp [Tryz.sizeOf22,Tryz.sizeOf3]⟩
theorem Jg3:FA Tryz.prog 106 2 2:=Qeq (n:=0) Tryz.underlying106 z z Tryz.sizeOf3
theorem t13:T1 Tryz.prog 3:=⟨λw=>by simp [isAgg,run_underlying Tryz.underlying3],Tryz.sizeOf3⟩
theorem Jg0:FA Tryz.prog 106 1 1:=Qeq (n:=0) Tryz.underlying106 z z Tryz.sizeOf3
theorem Jg7:FA Tryz.prog 106 0 0:=Qeq (n:=0) Tryz.underlying106 z z Tryz.sizeOf22
theorem Joj:T1 Tryz.prog 22:=⟨λw=>by simp [isAgg,run_underlying Tryz.underlying22],Tryz.sizeOf22⟩
theorem Qlz:TS Tryz.prog 35 1:=⟨3,Tryz.underlying35,Tryz.sizeOf3⟩
theorem Qbf:TE Tryz.prog 35 1 8 [I 0]:=⟨3,Tryz.t3,Tryz.underlying35,Tryz.type3,⟨_,z,z⟩,z,z,z,by decide⟩
theorem Jla:BT Tryz.prog 50 [I 0,I 0,I 0,I 0] #[(0,1),(1,1),(2,1),(3,1)]:=⟨Tryz.zeroValue50,_,Tryz.underlying50,λw=>by simp [Tryz.sizeOf3]⟩
theorem Q55:BT Tryz.prog 55 [I 0,I 0,I 0,I 0,I 0,I 0,.slice none 0 0,.slice none 0 0,I 0,.slice none 0 0] #[(0,1),(1,4),(5,1),(6,1),(7,1),(8,1),(9,1)]:=⟨Tryz.zeroValue55,_,Tryz.underlying55,λw=>by simp [Tryz.sizeOf3,Tryz.sizeOf50,Tryz.sizeOf51,Tryz.sizeOf52,Tryz.sizeOf53]⟩
theorem Jau:FA Tryz.prog 55 2 5:=Qeq (n:=0) Tryz.underlying55 z z Tryz.sizeOf3
theorem Qta:FA Tryz.prog 55 3 6:=Qeq (n:=0) Tryz.underlying55 z z Tryz.sizeOf51
theorem Jle:T1 Tryz.prog 51:=⟨λw=>by simp [isAgg,run_underlying Tryz.underlying51],Tryz.sizeOf51⟩
theorem Jgz:BT Tryz.prog 98 [I 0,I 0] #[(0,1),(1,1)]:=⟨Tryz.zeroValue98,_,Tryz.underlying98,λw=>by simp [Tryz.sizeOf3]⟩
theorem Q6e:TE Tryz.prog 51 2 16 [I 0,I 0]:=⟨98,Tryz.t98,Tryz.underlying51,Tryz.type98,⟨_,z,z⟩,z,z,z,by decide⟩
theorem Qif:FA Tryz.prog 55 4 7:=Qeq (n:=0) Tryz.underlying55 z z Tryz.sizeOf52
theorem Jk4:T1 Tryz.prog 52:=⟨λw=>by simp [isAgg,run_underlying Tryz.underlying52],Tryz.sizeOf52⟩
theorem Q47:BT Tryz.prog 61 [I 0,I 0,I 0,I 0,I 0,I 0,I 0] #[(0,1),(1,1),(2,1),(3,1),(4,1),(5,1),(6,1)]:=⟨Tryz.zeroValue61,_,Tryz.underlying61,λw=>by simp [Tryz.sizeOf3]⟩
theorem Qva:TE Tryz.prog 52 7 56 [I 0,I 0,I 0,I 0,I 0,I 0,I 0]:=⟨61,Tryz.t61,Tryz.underlying52,Tryz.type61,⟨_,z,z⟩,z,z,z,by decide⟩
theorem Q8p:BT Tryz.prog 59 [I 0,I 0,I 0,I 0,I 0,I 0,I 0] #[(0,1),(1,1),(2,1),(3,1),(4,1),(5,1),(6,1)]:=⟨Tryz.zeroValue59,_,Tryz.underlying59,λw=>by simp [Tryz.sizeOf3]⟩
theorem Jep:FA Tryz.prog 59 1 1:=Qeq (n:=0) Tryz.underlying59 z z Tryz.sizeOf3
theorem Jeh:FA Tryz.prog 59 2 2:=Qeq (n:=0) Tryz.underlying59 z z Tryz.sizeOf3
theorem Je4:FA Tryz.prog 59 3 3:=Qeq (n:=0) Tryz.underlying59 z z Tryz.sizeOf3
theorem Jjj:FA Tryz.prog 59 6 6:=Qeq (n:=0) Tryz.underlying59 z z Tryz.sizeOf3
theorem Quq:FA Tryz.prog 55 6 9:=Qeq (n:=0) Tryz.underlying55 z z Tryz.sizeOf53
theorem Jk8:T1 Tryz.prog 53:=⟨λw=>by simp [isAgg,run_underlying Tryz.underlying53],Tryz.sizeOf53⟩
theorem Jk3:TA Tryz.prog 59 7:=⟨Tryz.isAgg59,Tryz.sizeOf59⟩
theorem Q3y:TE Tryz.prog 53 7 56 [I 0,I 0,I 0,I 0,I 0,I 0,I 0]:=⟨59,Tryz.t59,Tryz.underlying53,Tryz.type59,⟨_,z,z⟩,z,z,z,by decide⟩
theorem Qyf:TA Tryz.prog 55 10:=⟨Tryz.isAgg55,Tryz.sizeOf55⟩
theorem Jee:FA Tryz.prog 55 0 0:=Qeq (n:=0) Tryz.underlying55 z z Tryz.sizeOf3
theorem Q6w:FA Tryz.prog 55 1 1:=Qeq (n:=3) Tryz.underlying55 z z Tryz.sizeOf50
theorem Jic:FA Tryz.prog 50 0 0:=Qeq (n:=0) Tryz.underlying50 z z Tryz.sizeOf3
theorem Jja:FA Tryz.prog 50 3 3:=Qeq (n:=0) Tryz.underlying50 z z Tryz.sizeOf3
theorem Jk2:TS Tryz.prog 52 7:=⟨61,Tryz.underlying52,Tryz.sizeOf61⟩
theorem Ja8:FA Tryz.prog 61 2 2:=Qeq (n:=0) Tryz.underlying61 z z Tryz.sizeOf3
theorem Jea:FA Tryz.prog 61 5 5:=Qeq (n:=0) Tryz.underlying61 z z Tryz.sizeOf3
theorem Jeb:FA Tryz.prog 55 5 8:=Qeq (n:=0) Tryz.underlying55 z z Tryz.sizeOf3
theorem Jk9:TS Tryz.prog 53 7:=⟨59,Tryz.underlying53,Tryz.sizeOf59⟩
theorem Jlk:TS Tryz.prog 51 2:=⟨98,Tryz.underlying51,Tryz.sizeOf98⟩
theorem Q8j:TA Tryz.prog 61 7:=⟨Tryz.isAgg61,Tryz.sizeOf61⟩
theorem Qyh:TE Tryz.prog 68 1 16 [.string ⟨#[]⟩]:=⟨9,Tryz.t9,Tryz.underlying68,Tryz.type9,⟨_,z,z⟩,z,z,z,by decide⟩
theorem Jiy:FA Tryz.prog 50 1 1:=Qeq (n:=0) Tryz.underlying50 z z Tryz.sizeOf3
theorem Jjv:FA Tryz.prog 50 2 2:=Qeq (n:=0) Tryz.underlying50 z z Tryz.sizeOf3
theorem Qve:TE Tryz.prog 88 1 24 [.slice none 0 0]:=⟨35,Tryz.t35,Tryz.underlying88,Tryz.type35,⟨_,z,z⟩,z,z,z,by decide⟩
theorem Jeg:FA Tryz.prog 98 0 0:=Qeq (n:=0) Tryz.underlying98 z z Tryz.sizeOf3
theorem Jek:FA Tryz.prog 98 1 1:=Qeq (n:=0) Tryz.underlying98 z z Tryz.sizeOf3
theorem Jkd:FA Tryz.prog 61 0 0:=Qeq (n:=0) Tryz.underlying61 z z Tryz.sizeOf3
theorem Q9t:FA Tryz.prog 61 1 1:=Qeq (n:=0) Tryz.underlying61 z z Tryz.sizeOf3
theorem Ja6:FA Tryz.prog 61 3 3:=Qeq (n:=0) Tryz.underlying61 z z Tryz.sizeOf3
theorem Jjw:FA Tryz.prog 61 4 4:=Qeq (n:=0) Tryz.underlying61 z z Tryz.sizeOf3
theorem Jiq:FA Tryz.prog 61 6 6:=Qeq (n:=0) Tryz.underlying61 z z Tryz.sizeOf3
theorem Jiw:FA Tryz.prog 59 0 0:=Qeq (n:=0) Tryz.underlying59 z z Tryz.sizeOf3
theorem Jkr:FA Tryz.prog 59 4 4:=Qeq (n:=0) Tryz.underlying59 z z Tryz.sizeOf3
theorem Jkt:FA Tryz.prog 59 5 5:=Qeq (n:=0) Tryz.underlying59 z z Tryz.sizeOf3
theorem Joo:TE Tryz.prog 22 1 1 [.int .u8 0]:=⟨5,Tryz.t5,Tryz.underlying22,Tryz.type5,⟨_,z,z⟩,z,z,z,by decide⟩
theorem Jlj:TS Tryz.prog 68 1:=⟨9,Tryz.underlying68,Tryz.sizeOf9⟩
theorem t19:T1 Tryz.prog 9:=⟨λw=>by simp [isAgg,run_underlying Tryz.underlying9],Tryz.sizeOf9⟩
theorem Q8k:TS Tryz.prog 88 1:=⟨35,Tryz.underlying88,Tryz.sizeOf35⟩
theorem Q6u:T1 Tryz.prog 35:=⟨λw=>by simp [isAgg,run_underlying Tryz.underlying35],Tryz.sizeOf35⟩
theorem Jof:TA Tryz.prog 50 4:=⟨Tryz.isAgg50,Tryz.sizeOf50⟩
theorem Jor:TA Tryz.prog 98 2:=⟨Tryz.isAgg98,Tryz.sizeOf98⟩
theorem Jmi:SEq Tryz.prog 98 Pair:=Jhl Tryz.underlying98 Tryz.stoodInHeld98 Tryz.eqGuardType98 Tryz.underlying3 z
theorem Jdb:TE Tryz.prog 24 3 40 [I 0,I 0,.slice none 0 0]:=⟨37,Tryz.t37,Tryz.underlying24,Tryz.type37,⟨_,z,z⟩,z,z,z,by decide⟩
theorem Jht:BT Tryz.prog 37 [I 0,I 0,.slice none 0 0] #[(0,1),(1,1),(2,1)]:=⟨Tryz.zeroValue37,_,Tryz.underlying37,λw=>by simp [Tryz.sizeOf3,Tryz.sizeOf35]⟩
theorem Jjy:FA Tryz.prog 37 0 0:=Qeq (n:=0) Tryz.underlying37 z z Tryz.sizeOf3
theorem Jjf:FA Tryz.prog 37 2 2:=Qeq (n:=0) Tryz.underlying37 z z Tryz.sizeOf35
theorem Jh8:BT Tryz.prog 91 [I 0,I 0,I 0,I 0] #[(0,1),(1,1),(2,1),(3,1)]:=⟨Tryz.zeroValue91,_,Tryz.underlying91,λw=>by simp [Tryz.sizeOf3]⟩
theorem Q7i:TA Tryz.prog 37 3:=⟨Tryz.isAgg37,Tryz.sizeOf37⟩
theorem Q97:TA Tryz.prog 91 4:=⟨Tryz.isAgg91,Tryz.sizeOf91⟩
theorem Q92:FA Tryz.prog 91 0 0:=Qeq (n:=0) Tryz.underlying91 z z Tryz.sizeOf3
theorem Q98:FA Tryz.prog 91 1 1:=Qeq (n:=0) Tryz.underlying91 z z Tryz.sizeOf3
theorem Jbs:FA Tryz.prog 91 2 2:=Qeq (n:=0) Tryz.underlying91 z z Tryz.sizeOf3
theorem Jbt:FA Tryz.prog 91 3 3:=Qeq (n:=0) Tryz.underlying91 z z Tryz.sizeOf3
theorem Joe:TS Tryz.prog 90 4:=⟨91,Tryz.underlying90,Tryz.sizeOf91⟩
theorem Qwi:TE Tryz.prog 129 5 56 [.slice none 0 0,I 0,I 0,I 0,I 0]:=⟨140,Tryz.t140,Tryz.underlying129,Tryz.type140,⟨_,z,z⟩,z,z,z,by decide⟩
theorem Jhi:TS Tryz.prog 129 5:=⟨140,Tryz.underlying129,Tryz.sizeOf140⟩
theorem Q28:FA Tryz.prog 140 1 1:=Qeq (n:=0) Tryz.underlying140 z z Tryz.sizeOf3
theorem Qw2:FA Tryz.prog 140 4 4:=Qeq (n:=0) Tryz.underlying140 z z Tryz.sizeOf3
theorem Q2e:BT Tryz.prog 140 [.slice none 0 0,I 0,I 0,I 0,I 0] #[(0,1),(1,1),(2,1),(3,1),(4,1)]:=⟨Tryz.zeroValue140,_,Tryz.underlying140,λw=>by simp [Tryz.sizeOf3,Tryz.sizeOf35]⟩
theorem Q8w:FA Tryz.prog 140 0 0:=Qeq (n:=0) Tryz.underlying140 z z Tryz.sizeOf35
theorem Qxc:FA Tryz.prog 140 2 2:=Qeq (n:=0) Tryz.underlying140 z z Tryz.sizeOf3
theorem Qxb:FA Tryz.prog 140 3 3:=Qeq (n:=0) Tryz.underlying140 z z Tryz.sizeOf3
theorem Q36:TA Tryz.prog 140 5:=⟨Tryz.isAgg140,Tryz.sizeOf140⟩
theorem Qwf:TE Tryz.prog 131 4 48 [.slice none 0 0,I 0,I 0,I 0]:=⟨138,Tryz.t138,Tryz.underlying131,Tryz.type138,⟨_,z,z⟩,z,z,z,by decide⟩
theorem Jc4:TS Tryz.prog 131 4:=⟨138,Tryz.underlying131,Tryz.sizeOf138⟩
theorem Q19:FA Tryz.prog 138 1 1:=Qeq (n:=0) Tryz.underlying138 z z Tryz.sizeOf3
theorem Qww:FA Tryz.prog 138 3 3:=Qeq (n:=0) Tryz.underlying138 z z Tryz.sizeOf3
theorem Q2r:BT Tryz.prog 138 [.slice none 0 0,I 0,I 0,I 0] #[(0,1),(1,1),(2,1),(3,1)]:=⟨Tryz.zeroValue138,_,Tryz.underlying138,λw=>by simp [Tryz.sizeOf3,Tryz.sizeOf35]⟩
theorem Jbu:FA Tryz.prog 138 0 0:=Qeq (n:=0) Tryz.underlying138 z z Tryz.sizeOf35
theorem Qxe:FA Tryz.prog 138 2 2:=Qeq (n:=0) Tryz.underlying138 z z Tryz.sizeOf3
theorem Jb3:TA Tryz.prog 138 4:=⟨Tryz.isAgg138,Tryz.sizeOf138⟩
theorem Qv5:TE Tryz.prog 133 3 40 [.slice none 0 0,I 0,I 0]:=⟨136,Tryz.t136,Tryz.underlying133,Tryz.type136,⟨_,z,z⟩,z,z,z,by decide⟩
theorem Jcy:TS Tryz.prog 133 3:=⟨136,Tryz.underlying133,Tryz.sizeOf136⟩
theorem Q2t:FA Tryz.prog 136 1 1:=Qeq (n:=0) Tryz.underlying136 z z Tryz.sizeOf3
theorem Q21:FA Tryz.prog 136 2 2:=Qeq (n:=0) Tryz.underlying136 z z Tryz.sizeOf3
theorem Q3t:BT Tryz.prog 136 [.slice none 0 0,I 0,I 0] #[(0,1),(1,1),(2,1)]:=⟨Tryz.zeroValue136,_,Tryz.underlying136,λw=>by simp [Tryz.sizeOf3,Tryz.sizeOf35]⟩
theorem Jbo:FA Tryz.prog 136 0 0:=Qeq (n:=0) Tryz.underlying136 z z Tryz.sizeOf35
theorem Jb7:TE Tryz.prog 25 4 32 [I 0,I 0,I 0,I 0]:=⟨39,Tryz.t39,Tryz.underlying25,Tryz.type39,⟨_,z,z⟩,z,z,z,by decide⟩
theorem Jj6:TA Tryz.prog 136 3:=⟨Tryz.isAgg136,Tryz.sizeOf136⟩
theorem Jhu:BT Tryz.prog 39 [I 0,I 0,I 0,I 0] #[(0,1),(1,1),(2,1),(3,1)]:=⟨Tryz.zeroValue39,_,Tryz.underlying39,λw=>by simp [Tryz.sizeOf3]⟩
theorem Jos:TS Tryz.prog 25 4:=⟨39,Tryz.underlying25,Tryz.sizeOf39⟩
theorem Jhr:TA Tryz.prog 39 4:=⟨Tryz.isAgg39,Tryz.sizeOf39⟩
theorem Jk0:FA Tryz.prog 39 0 0:=Qeq (n:=0) Tryz.underlying39 z z Tryz.sizeOf3
theorem Jcl:BT Tryz.prog 27 [.slice none 0 0,.slice none 0 0] #[(0,1),(1,1)]:=⟨Tryz.zeroValue27,_,Tryz.underlying27,λw=>by simp [Tryz.sizeOf24,Tryz.sizeOf25]⟩
theorem Jdl:TA Tryz.prog 27 2:=⟨Tryz.isAgg27,Tryz.sizeOf27⟩
theorem Jhy:TE Tryz.prog 90 4 32 [I 0,I 0,I 0,I 0]:=⟨91,Tryz.t91,Tryz.underlying90,Tryz.type91,⟨_,z,z⟩,z,z,z,by decide⟩
theorem Jad:FA Tryz.prog 27 0 0:=Qeq (n:=0) Tryz.underlying27 z z Tryz.sizeOf24
theorem Jny:T1 Tryz.prog 24:=⟨λw=>by simp [isAgg,run_underlying Tryz.underlying24],Tryz.sizeOf24⟩
theorem Joc:TS Tryz.prog 24 3:=⟨37,Tryz.underlying24,Tryz.sizeOf37⟩
theorem Jkx:FA Tryz.prog 37 1 1:=Qeq (n:=0) Tryz.underlying37 z z Tryz.sizeOf3
theorem Q60:FA Tryz.prog 27 1 1:=Qeq (n:=0) Tryz.underlying27 z z Tryz.sizeOf25
theorem Jou:T1 Tryz.prog 25:=⟨λw=>by simp [isAgg,run_underlying Tryz.underlying25],Tryz.sizeOf25⟩
theorem Jii:FA Tryz.prog 39 1 1:=Qeq (n:=0) Tryz.underlying39 z z Tryz.sizeOf3
theorem Jjt:FA Tryz.prog 39 2 2:=Qeq (n:=0) Tryz.underlying39 z z Tryz.sizeOf3
theorem Jks:FA Tryz.prog 39 3 3:=Qeq (n:=0) Tryz.underlying39 z z Tryz.sizeOf3
theorem Jmh:BT Tryz.prog 201 [I 0,I 0] #[(0,1),(1,1)]:=⟨Tryz.zeroValue201,_,Tryz.underlying201,λw=>by simp [Tryz.sizeOf3]⟩
theorem Q2h:FA Tryz.prog 201 0 0:=Qeq (n:=0) Tryz.underlying201 z z Tryz.sizeOf3
theorem Jgh:FA Tryz.prog 201 1 1:=Qeq (n:=0) Tryz.underlying201 z z Tryz.sizeOf3
theorem Jju:TA Tryz.prog 201 2:=⟨Tryz.isAgg201,Tryz.sizeOf201⟩
theorem Jff:FD Tryz.prog 201 0 0 1 false:=⟨_,_,Tryz.underlying201,z,z,(λw=>by simp [isAgg,run_underlying Tryz.underlying3]),Tryz.sizeOf3⟩
theorem Qac {w:World} {x:Request} {F0 F1 F2:List Nat} {v0 v1 v2:Value} (h0:rd w F0 [v0] x.fR) (h1:rd w F1 [v1] x.fU) (h2:rd w F2 [v2] x.fV):rd w (F0++(F1++F2)) [I x.f0,I x.fJ.fW,I x.fJ.fD,I x.fJ.fH,I x.fJ.fQ,I x.fG,v0,v1,I x.fT,v2] x:=⟨_,_,_,_,_,_,rfl,rfl,h0,h1,h2⟩
theorem Qvc {w:World} {x:Carton} {F0:List Nat} {v0:Value} (h0:rd w F0 [v0] x.fO):rd w F0 [I x.qY,I x.qJ,v0] x:=⟨_,_,rfl,rfl,h0⟩
theorem Q9j {w:World} {x:Shelf} {F0:List Nat} {v0:Value} (h0:rd w F0 [v0] x.fM):rd w F0 [v0,I x.fW,I x.fD,I x.fH,I x.fQ] x:=⟨_,_,rfl,rfl,h0⟩
theorem Jgp {w:World} {x:Layer} {F0:List Nat} {v0:Value} (h0:rd w F0 [v0] x.fP):rd w F0 [v0,I x.fD,I x.fH,I x.fQ] x:=⟨_,_,rfl,rfl,h0⟩
theorem Q7g {w:World} {x:Plan} {F0 F1:List Nat} {v0 v1:Value} (h0:rd w F0 [v0] x.fE) (h1:rd w F1 [v1] x.f9):rd w (F0++F1) [v0,v1] x:=⟨_,_,_,_,rfl,rfl,h0,h1⟩
abbrev cR (x:Request) (a b c:Value):List Value:=[I x.f0,I x.fJ.fW,I x.fJ.fD,I x.fJ.fH,I x.fJ.fQ,I x.fG,a,b,I x.fT,c]
instance:Tys Tryz.prog where
 fa:=[(106,2,2),(106,1,1),(106,0,0),(55,2,5),(55,3,6),(55,4,7),(59,1,1),(59,2,2),(59,3,3),(59,6,6),(55,6,9),(55,0,0),(55,1,1),(50,0,0),(50,3,3),(61,2,2),(61,5,5),(55,5,8),(50,1,1),(50,2,2),(98,0,0),(98,1,1),(61,0,0),(61,1,1),(61,3,3),(61,4,4),(61,6,6),(59,0,0),(59,4,4),(59,5,5),(37,0,0),(37,2,2),(91,0,0),(91,1,1),(91,2,2),(91,3,3),(140,1,1),(140,4,4),(140,0,0),(140,2,2),(140,3,3),(138,1,1),(138,3,3),(138,0,0),(138,2,2),(136,1,1),(136,2,2),(136,0,0),(39,0,0),(27,0,0),(37,1,1),(27,1,1),(39,1,1),(39,2,2),(39,3,3),(201,0,0),(201,1,1)]
 hfa:=fC Jg3 (fC Jg0 (fC Jg7 (fC Jau (fC Qta (fC Qif (fC Jep (fC Jeh (fC Je4 (fC Jjj (fC Quq (fC Jee (fC Q6w (fC Jic (fC Jja (fC Ja8 (fC Jea (fC Jeb (fC Jiy (fC Jjv (fC Jeg (fC Jek (fC Jkd (fC Q9t (fC Ja6 (fC Jjw (fC Jiq (fC Jiw (fC Jkr (fC Jkt (fC Jjy (fC Jjf (fC Q92 (fC Q98 (fC Jbs (fC Jbt (fC Q28 (fC Qw2 (fC Q8w (fC Qxc (fC Qxb (fC Q19 (fC Qww (fC Jbu (fC Qxe (fC Q2t (fC Q21 (fC Jbo (fC Jk0 (fC Jad (fC Jkx (fC Q60 (fC Jii (fC Jjt (fC Jks (fC Q2h (fC Jgh fN))))))))))))))))))))))))))))))))))))))))))))))))))))))))
 ts:=[(22,1),(35,1),(52,7),(53,7),(51,2),(68,1),(88,1),(90,4),(129,5),(131,4),(133,3),(25,4),(24,3)]
 hts:=fC Jho (fC Qlz (fC Jk2 (fC Jk9 (fC Jlk (fC Jlj (fC Q8k (fC Joe (fC Jhi (fC Jc4 (fC Jcy (fC Jos (fC Joc fN))))))))))))
 t1:=[5,3,22,51,52,53,9,35,24,25]
 ht1:=fC t15 (fC t13 (fC Joj (fC Jle (fC Jk4 (fC Jk8 (fC t19 (fC Q6u (fC Jny (fC Jou fN)))))))))
 ta:=[(59,7),(55,10),(61,7),(50,4),(98,2),(37,3),(91,4),(39,4),(27,2),(201,2)]
 hta:=fC Jk3 (fC Qyf (fC Q8j (fC Jof (fC Jor (fC Q7i (fC Q97 (fC Jhr (fC Jdl (fC Jju fN)))))))))
 sl:=[22,24,25,35,51,52,53,68,88,90,129,131,133]
 hsl:=fC ⟨_,Tryz.underlying22⟩ (fC ⟨_,Tryz.underlying24⟩ (fC ⟨_,Tryz.underlying25⟩ (fC ⟨_,Tryz.underlying35⟩ (fC ⟨_,Tryz.underlying51⟩ (fC ⟨_,Tryz.underlying52⟩ (fC ⟨_,Tryz.underlying53⟩ (fC ⟨_,Tryz.underlying68⟩ (fC ⟨_,Tryz.underlying88⟩ (fC ⟨_,Tryz.underlying90⟩ (fC ⟨_,Tryz.underlying129⟩ (fC ⟨_,Tryz.underlying131⟩ (fC ⟨_,Tryz.underlying133⟩ fN))))))))))))
 hmx:=Qge

abbrev cS (n:Nat) (l:List Value) (u:World) (v:Value):Prop:=Calls Tryz.prog n l.toArray u λe w=>e=.returned v∧Ext [] u w
abbrev cL {α:Type} [Enc α] (n:Nat) (l:List Value) (u:World) (r:α):Prop:=Calls Tryz.prog n l.toArray u λe w=>∃ (v:Value) (G:List Nat),e=.returned v∧Ext [] u w∧ow w G [v] r∧∀ b∈G,u.heap.size≤b
end Go.Proofs.YthkaklkinepfkaaGreatDoor
