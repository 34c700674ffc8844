/- FnRenamed: facts on .. -/
import Derived.Test.YtndfoffokpdjeaaGreatDoorRenamedBD
import Derived.Test.YtndfoffokpdjeaaGreatDoorS9
import Derived.Test.YtndfoffokpdjeaaGreatDoorS12
import Derived.Test.YtndfoffokpdjeaaGreatDoorS15
import Derived.Test.YtndfoffokpdjeaaGreatDoorS17
import Derived.Test.YtndfoffokpdjeaaGreatDoorS20
import Derived.Test.YtndfoffokpdjeaaGreatDoorS26
import Derived.Test.YtndfoffokpdjeaaGreatDoorProg
import Derived.Test.YtndfoffokpdjeaaGreatDoorS22
import Derived.Test.YtndfoffokpdjeaaGreatDoorShelf
set_option maxRecDepth 20000
set_option linter.unusedSimpArgs false
set_option linter.unusedVariables false
set_option linter.unnecessarySimpa false
namespace Go.Proofs.YtndfoffokpdjeaaGreatDoor
open Go Go.RowKit
open Enc (rd ow)
open Arg (argv)
open Ret (retv)
open Go.Proofs.Tryz

theorem Qhu:Tryz.prog.follows .mixedOrders=true:=by kernel_rfl
theorem Jls:TS Tryz.prog 22 1:=⟨5,Tryz.underlying22,Tryz.sizeOf5⟩
theorem t15:T1 Tryz.prog 5:=⟨λw=>by simp [isAgg,run_underlying Tryz.underlying5],Tryz.sizeOf5⟩
theorem Jk1:BT Tryz.prog 96 [.slice none 0 0,I 0,I 0] #[(0,1),(1,1),(2,1)]:=⟨Tryz.zeroValue96,_,Tryz.underlying96,λw=>by simp [Tryz.sizeOf22,Tryz.sizeOf3]⟩
theorem Jfx:FA Tryz.prog 96 2 2:=Qf0 (n:=0) Tryz.underlying96 z z Tryz.sizeOf3
theorem t13:T1 Tryz.prog 3:=⟨λw=>by simp [isAgg,run_underlying Tryz.underlying3],Tryz.sizeOf3⟩
theorem Jhf:FA Tryz.prog 96 1 1:=Qf0 (n:=0) Tryz.underlying96 z z Tryz.sizeOf3
theorem Jfz:FA Tryz.prog 96 0 0:=Qf0 (n:=0) Tryz.underlying96 z z Tryz.sizeOf22
theorem Jld:T1 Tryz.prog 22:=⟨λw=>by simp [isAgg,run_underlying Tryz.underlying22],Tryz.sizeOf22⟩
theorem Qr8:TS Tryz.prog 71 1:=⟨3,Tryz.underlying71,Tryz.sizeOf3⟩
theorem Qbm:TE Tryz.prog 71 1 8 [I 0]:=⟨3,Tryz.t3,Tryz.underlying71,Tryz.type3,⟨_,z,z⟩,z,z,z,by decide⟩
theorem Ji7:BT Tryz.prog 32 [I 0,I 0,I 0,I 0] #[(0,1),(1,1),(2,1),(3,1)]:=⟨Tryz.zeroValue32,_,Tryz.underlying32,λw=>by simp [Tryz.sizeOf3]⟩
theorem Jfh:BT Tryz.prog 37 [I 0,I 0,I 0,I 0,I 0,I 0,.slice none 0 0,.slice none 0 0,I 0,.slice none 0 0] #[(0,1),(1,4),(5,1),(6,1),(7,1),(8,1),(9,1)]:=⟨Tryz.zeroValue37,_,Tryz.underlying37,λw=>by simp [Tryz.sizeOf3,Tryz.sizeOf32,Tryz.sizeOf33,Tryz.sizeOf34,Tryz.sizeOf35]⟩
theorem Q7m:FA Tryz.prog 37 2 5:=Qf0 (n:=0) Tryz.underlying37 z z Tryz.sizeOf3
theorem Quu:FA Tryz.prog 37 3 6:=Qf0 (n:=0) Tryz.underlying37 z z Tryz.sizeOf33
theorem Jkr:T1 Tryz.prog 33:=⟨λw=>by simp [isAgg,run_underlying Tryz.underlying33],Tryz.sizeOf33⟩
theorem Jfd:BT Tryz.prog 93 [I 0,I 0] #[(0,1),(1,1)]:=⟨Tryz.zeroValue93,_,Tryz.underlying93,λw=>by simp [Tryz.sizeOf3]⟩
theorem Q9s:TE Tryz.prog 33 2 16 [I 0,I 0]:=⟨93,Tryz.t93,Tryz.underlying33,Tryz.type93,⟨_,z,z⟩,z,z,z,by decide⟩
theorem Qii:FA Tryz.prog 37 4 7:=Qf0 (n:=0) Tryz.underlying37 z z Tryz.sizeOf34
theorem Q94:T1 Tryz.prog 34:=⟨λw=>by simp [isAgg,run_underlying Tryz.underlying34],Tryz.sizeOf34⟩
theorem Q3h:BT Tryz.prog 53 [I 0,I 0,I 0,I 0,I 0,I 0,I 0] #[(0,1),(1,1),(2,1),(3,1),(4,1),(5,1),(6,1)]:=⟨Tryz.zeroValue53,_,Tryz.underlying53,λw=>by simp [Tryz.sizeOf3]⟩
theorem Qtt:TE Tryz.prog 34 7 56 [I 0,I 0,I 0,I 0,I 0,I 0,I 0]:=⟨53,Tryz.t53,Tryz.underlying34,Tryz.type53,⟨_,z,z⟩,z,z,z,by decide⟩
theorem Q9r:BT Tryz.prog 51 [I 0,I 0,I 0,I 0,I 0,I 0,I 0] #[(0,1),(1,1),(2,1),(3,1),(4,1),(5,1),(6,1)]:=⟨Tryz.zeroValue51,_,Tryz.underlying51,λw=>by simp [Tryz.sizeOf3]⟩
theorem Jcm:FA Tryz.prog 51 1 1:=Qf0 (n:=0) Tryz.underlying51 z z Tryz.sizeOf3
theorem Jch:FA Tryz.prog 51 2 2:=Qf0 (n:=0) Tryz.underlying51 z z Tryz.sizeOf3
theorem Jby:FA Tryz.prog 51 3 3:=Qf0 (n:=0) Tryz.underlying51 z z Tryz.sizeOf3
theorem Jhy:FA Tryz.prog 51 6 6:=Qf0 (n:=0) Tryz.underlying51 z z Tryz.sizeOf3
theorem Qsf:FA Tryz.prog 37 6 9:=Qf0 (n:=0) Tryz.underlying37 z z Tryz.sizeOf35
theorem Jd0:T1 Tryz.prog 35:=⟨λw=>by simp [isAgg,run_underlying Tryz.underlying35],Tryz.sizeOf35⟩
theorem Jgg:TA Tryz.prog 51 7:=⟨Tryz.isAgg51,Tryz.sizeOf51⟩
theorem Q2y:TE Tryz.prog 35 7 56 [I 0,I 0,I 0,I 0,I 0,I 0,I 0]:=⟨51,Tryz.t51,Tryz.underlying35,Tryz.type51,⟨_,z,z⟩,z,z,z,by decide⟩
theorem Qwk:TA Tryz.prog 37 10:=⟨Tryz.isAgg37,Tryz.sizeOf37⟩
theorem Jic:FA Tryz.prog 32 0 0:=Qf0 (n:=0) Tryz.underlying32 z z Tryz.sizeOf3
theorem Jgl:FA Tryz.prog 32 1 1:=Qf0 (n:=0) Tryz.underlying32 z z Tryz.sizeOf3
theorem Jhv:FA Tryz.prog 32 2 2:=Qf0 (n:=0) Tryz.underlying32 z z Tryz.sizeOf3
theorem Jg0:FA Tryz.prog 32 3 3:=Qf0 (n:=0) Tryz.underlying32 z z Tryz.sizeOf3
theorem Jh8:FA Tryz.prog 53 0 0:=Qf0 (n:=0) Tryz.underlying53 z z Tryz.sizeOf3
theorem Q8v:FA Tryz.prog 53 1 1:=Qf0 (n:=0) Tryz.underlying53 z z Tryz.sizeOf3
theorem Q9m:FA Tryz.prog 53 2 2:=Qf0 (n:=0) Tryz.underlying53 z z Tryz.sizeOf3
theorem Q68:FA Tryz.prog 53 3 3:=Qf0 (n:=0) Tryz.underlying53 z z Tryz.sizeOf3
theorem Jhx:FA Tryz.prog 53 4 4:=Qf0 (n:=0) Tryz.underlying53 z z Tryz.sizeOf3
theorem Jci:FA Tryz.prog 53 5 5:=Qf0 (n:=0) Tryz.underlying53 z z Tryz.sizeOf3
theorem Q6b:FA Tryz.prog 53 6 6:=Qf0 (n:=0) Tryz.underlying53 z z Tryz.sizeOf3
theorem Jbu:FA Tryz.prog 51 0 0:=Qf0 (n:=0) Tryz.underlying51 z z Tryz.sizeOf3
theorem Jg1:FA Tryz.prog 51 4 4:=Qf0 (n:=0) Tryz.underlying51 z z Tryz.sizeOf3
theorem Jf8:FA Tryz.prog 51 5 5:=Qf0 (n:=0) Tryz.underlying51 z z Tryz.sizeOf3
theorem Jbi:FA Tryz.prog 37 0 0:=Qf0 (n:=0) Tryz.underlying37 z z Tryz.sizeOf3
theorem Q70:FA Tryz.prog 37 1 1:=Qf0 (n:=3) Tryz.underlying37 z z Tryz.sizeOf32
theorem Jlc:TA Tryz.prog 32 4:=⟨Tryz.isAgg32,Tryz.sizeOf32⟩
theorem Jck:FA Tryz.prog 37 5 8:=Qf0 (n:=0) Tryz.underlying37 z z Tryz.sizeOf3
theorem Jk0:TS Tryz.prog 33 2:=⟨93,Tryz.underlying33,Tryz.sizeOf93⟩
theorem Jgs:FA Tryz.prog 93 0 0:=Qf0 (n:=0) Tryz.underlying93 z z Tryz.sizeOf3
theorem Jft:FA Tryz.prog 93 1 1:=Qf0 (n:=0) Tryz.underlying93 z z Tryz.sizeOf3
theorem Je4:TS Tryz.prog 34 7:=⟨53,Tryz.underlying34,Tryz.sizeOf53⟩
theorem Q5w:TA Tryz.prog 53 7:=⟨Tryz.isAgg53,Tryz.sizeOf53⟩
theorem Jhp:TS Tryz.prog 35 7:=⟨51,Tryz.underlying35,Tryz.sizeOf51⟩
theorem Jle:TA Tryz.prog 93 2:=⟨Tryz.isAgg93,Tryz.sizeOf93⟩
theorem Jkn:SEq Tryz.prog 93 Pair:=Je2 Tryz.underlying93 Tryz.stoodInHeld93 Tryz.eqGuardType93 Tryz.underlying3 z
theorem Q5v:TS Tryz.prog 83 1:=⟨71,Tryz.underlying83,Tryz.sizeOf71⟩
theorem Q5g:T1 Tryz.prog 71:=⟨λw=>by simp [isAgg,run_underlying Tryz.underlying71],Tryz.sizeOf71⟩
theorem Qwj:TE Tryz.prog 83 1 24 [.slice none 0 0]:=⟨71,Tryz.t71,Tryz.underlying83,Tryz.type71,⟨_,z,z⟩,z,z,z,by decide⟩
theorem Jfa:TE Tryz.prog 40 3 40 [I 0,I 0,.slice none 0 0]:=⟨73,Tryz.t73,Tryz.underlying40,Tryz.type73,⟨_,z,z⟩,z,z,z,by decide⟩
theorem Jkv:BT Tryz.prog 73 [I 0,I 0,.slice none 0 0] #[(0,1),(1,1),(2,1)]:=⟨Tryz.zeroValue73,_,Tryz.underlying73,λw=>by simp [Tryz.sizeOf3,Tryz.sizeOf71]⟩
theorem Jf1:FA Tryz.prog 73 0 0:=Qf0 (n:=0) Tryz.underlying73 z z Tryz.sizeOf3
theorem Jif:FA Tryz.prog 73 2 2:=Qf0 (n:=0) Tryz.underlying73 z z Tryz.sizeOf71
theorem Je6:BT Tryz.prog 86 [I 0,I 0,I 0,I 0] #[(0,1),(1,1),(2,1),(3,1)]:=⟨Tryz.zeroValue86,_,Tryz.underlying86,λw=>by simp [Tryz.sizeOf3]⟩
theorem Jew:TA Tryz.prog 73 3:=⟨Tryz.isAgg73,Tryz.sizeOf73⟩
theorem Q79:TA Tryz.prog 86 4:=⟨Tryz.isAgg86,Tryz.sizeOf86⟩
theorem Q8m:FA Tryz.prog 86 0 0:=Qf0 (n:=0) Tryz.underlying86 z z Tryz.sizeOf3
theorem Q9o:FA Tryz.prog 86 1 1:=Qf0 (n:=0) Tryz.underlying86 z z Tryz.sizeOf3
theorem Q83:FA Tryz.prog 86 2 2:=Qf0 (n:=0) Tryz.underlying86 z z Tryz.sizeOf3
theorem Q67:FA Tryz.prog 86 3 3:=Qf0 (n:=0) Tryz.underlying86 z z Tryz.sizeOf3
theorem Jlg:TS Tryz.prog 85 4:=⟨86,Tryz.underlying85,Tryz.sizeOf86⟩
theorem Quq:TE Tryz.prog 136 5 56 [.slice none 0 0,I 0,I 0,I 0,I 0]:=⟨147,Tryz.t147,Tryz.underlying136,Tryz.type147,⟨_,z,z⟩,z,z,z,by decide⟩
theorem Jdt:TS Tryz.prog 136 5:=⟨147,Tryz.underlying136,Tryz.sizeOf147⟩
theorem Q04:FA Tryz.prog 147 1 1:=Qf0 (n:=0) Tryz.underlying147 z z Tryz.sizeOf3
theorem Qu1:FA Tryz.prog 147 4 4:=Qf0 (n:=0) Tryz.underlying147 z z Tryz.sizeOf3
theorem Q0x:BT Tryz.prog 147 [.slice none 0 0,I 0,I 0,I 0,I 0] #[(0,1),(1,1),(2,1),(3,1),(4,1)]:=⟨Tryz.zeroValue147,_,Tryz.underlying147,λw=>by simp [Tryz.sizeOf3,Tryz.sizeOf71]⟩
theorem Q7v:FA Tryz.prog 147 0 0:=Qf0 (n:=0) Tryz.underlying147 z z Tryz.sizeOf71
theorem Qu7:FA Tryz.prog 147 2 2:=Qf0 (n:=0) Tryz.underlying147 z z Tryz.sizeOf3
theorem Qvn:FA Tryz.prog 147 3 3:=Qf0 (n:=0) Tryz.underlying147 z z Tryz.sizeOf3
theorem Q2t:TA Tryz.prog 147 5:=⟨Tryz.isAgg147,Tryz.sizeOf147⟩
theorem Qur:TE Tryz.prog 138 4 48 [.slice none 0 0,I 0,I 0,I 0]:=⟨145,Tryz.t145,Tryz.underlying138,Tryz.type145,⟨_,z,z⟩,z,z,z,by decide⟩
theorem Jal:TS Tryz.prog 138 4:=⟨145,Tryz.underlying138,Tryz.sizeOf145⟩
theorem Q1h:FA Tryz.prog 145 1 1:=Qf0 (n:=0) Tryz.underlying145 z z Tryz.sizeOf3
theorem Qvb:FA Tryz.prog 145 3 3:=Qf0 (n:=0) Tryz.underlying145 z z Tryz.sizeOf3
theorem Q0w:BT Tryz.prog 145 [.slice none 0 0,I 0,I 0,I 0] #[(0,1),(1,1),(2,1),(3,1)]:=⟨Tryz.zeroValue145,_,Tryz.underlying145,λw=>by simp [Tryz.sizeOf3,Tryz.sizeOf71]⟩
theorem Q50:FA Tryz.prog 145 0 0:=Qf0 (n:=0) Tryz.underlying145 z z Tryz.sizeOf71
theorem Qvh:FA Tryz.prog 145 2 2:=Qf0 (n:=0) Tryz.underlying145 z z Tryz.sizeOf3
theorem Q8s:TA Tryz.prog 145 4:=⟨Tryz.isAgg145,Tryz.sizeOf145⟩
theorem Qua:TE Tryz.prog 140 3 40 [.slice none 0 0,I 0,I 0]:=⟨143,Tryz.t143,Tryz.underlying140,Tryz.type143,⟨_,z,z⟩,z,z,z,by decide⟩
theorem Jaq:TS Tryz.prog 140 3:=⟨143,Tryz.underlying140,Tryz.sizeOf143⟩
theorem Qz8:FA Tryz.prog 143 1 1:=Qf0 (n:=0) Tryz.underlying143 z z Tryz.sizeOf3
theorem Q1k:FA Tryz.prog 143 2 2:=Qf0 (n:=0) Tryz.underlying143 z z Tryz.sizeOf3
theorem Qz0:BT Tryz.prog 143 [.slice none 0 0,I 0,I 0] #[(0,1),(1,1),(2,1)]:=⟨Tryz.zeroValue143,_,Tryz.underlying143,λw=>by simp [Tryz.sizeOf3,Tryz.sizeOf71]⟩
theorem Q9i:FA Tryz.prog 143 0 0:=Qf0 (n:=0) Tryz.underlying143 z z Tryz.sizeOf71
theorem Jdn:TE Tryz.prog 41 4 32 [I 0,I 0,I 0,I 0]:=⟨75,Tryz.t75,Tryz.underlying41,Tryz.type75,⟨_,z,z⟩,z,z,z,by decide⟩
theorem Jhg:TA Tryz.prog 143 3:=⟨Tryz.isAgg143,Tryz.sizeOf143⟩
theorem Jk6:BT Tryz.prog 75 [I 0,I 0,I 0,I 0] #[(0,1),(1,1),(2,1),(3,1)]:=⟨Tryz.zeroValue75,_,Tryz.underlying75,λw=>by simp [Tryz.sizeOf3]⟩
theorem Jlq:TS Tryz.prog 41 4:=⟨75,Tryz.underlying41,Tryz.sizeOf75⟩
theorem Jlf:TA Tryz.prog 75 4:=⟨Tryz.isAgg75,Tryz.sizeOf75⟩
theorem Jg6:FA Tryz.prog 75 0 0:=Qf0 (n:=0) Tryz.underlying75 z z Tryz.sizeOf3
theorem Jio:BT Tryz.prog 43 [.slice none 0 0,.slice none 0 0] #[(0,1),(1,1)]:=⟨Tryz.zeroValue43,_,Tryz.underlying43,λw=>by simp [Tryz.sizeOf40,Tryz.sizeOf41]⟩
theorem Je9:TA Tryz.prog 43 2:=⟨Tryz.isAgg43,Tryz.sizeOf43⟩
theorem Jfg:TE Tryz.prog 85 4 32 [I 0,I 0,I 0,I 0]:=⟨86,Tryz.t86,Tryz.underlying85,Tryz.type86,⟨_,z,z⟩,z,z,z,by decide⟩
theorem Q9n:FA Tryz.prog 43 0 0:=Qf0 (n:=0) Tryz.underlying43 z z Tryz.sizeOf40
theorem Jjq:T1 Tryz.prog 40:=⟨λw=>by simp [isAgg,run_underlying Tryz.underlying40],Tryz.sizeOf40⟩
theorem Jky:TS Tryz.prog 40 3:=⟨73,Tryz.underlying40,Tryz.sizeOf73⟩
theorem Jh5:FA Tryz.prog 73 1 1:=Qf0 (n:=0) Tryz.underlying73 z z Tryz.sizeOf3
theorem Q6u:FA Tryz.prog 43 1 1:=Qf0 (n:=0) Tryz.underlying43 z z Tryz.sizeOf41
theorem Jll:T1 Tryz.prog 41:=⟨λw=>by simp [isAgg,run_underlying Tryz.underlying41],Tryz.sizeOf41⟩
theorem Jju:BT Tryz.prog 220 [I 0,I 0] #[(0,1),(1,1)]:=⟨Tryz.zeroValue220,_,Tryz.underlying220,λw=>by simp [Tryz.sizeOf3]⟩
theorem Qz3:FA Tryz.prog 220 0 0:=Qf0 (n:=0) Tryz.underlying220 z z Tryz.sizeOf3
theorem Jes:FA Tryz.prog 220 1 1:=Qf0 (n:=0) Tryz.underlying220 z z Tryz.sizeOf3
theorem Jf0:TA Tryz.prog 220 2:=⟨Tryz.isAgg220,Tryz.sizeOf220⟩
theorem Jd9:FD Tryz.prog 220 0 0 1 false:=⟨_,_,Tryz.underlying220,z,z,(λw=>by simp [isAgg,run_underlying Tryz.underlying3]),Tryz.sizeOf3⟩
theorem t14:T1 Tryz.prog 4:=⟨λw=>by simp [isAgg,run_underlying Tryz.underlying4],Tryz.sizeOf4⟩
theorem Jlk:T1 Tryz.prog 66:=⟨λw=>by simp [isAgg,run_underlying Tryz.underlying66],Tryz.sizeOf66⟩
theorem Jav:TE Tryz.prog 66 1 16 [.string ⟨#[]⟩]:=⟨9,Tryz.t9,Tryz.underlying66,Tryz.type9,⟨_,z,z⟩,z,z,z,by decide⟩
theorem Jj6:TS Tryz.prog 66 1:=⟨9,Tryz.underlying66,Tryz.sizeOf9⟩
theorem t19:T1 Tryz.prog 9:=⟨λw=>by simp [isAgg,run_underlying Tryz.underlying9],Tryz.sizeOf9⟩
theorem Jh2:FA Tryz.prog 75 1 1:=Qf0 (n:=0) Tryz.underlying75 z z Tryz.sizeOf3
theorem Jh6:FA Tryz.prog 75 2 2:=Qf0 (n:=0) Tryz.underlying75 z z Tryz.sizeOf3
theorem Jfv:FA Tryz.prog 75 3 3:=Qf0 (n:=0) Tryz.underlying75 z z Tryz.sizeOf3
theorem Qac {w:World} {x:Request} {F0 F1 F2:List Nat} {v0 v1 v2:Value} (h0:rd w F0 [v0] x.fT) (h1:rd w F1 [v1] x.fG) (h2:rd w F2 [v2] x.fV):rd w (F0++(F1++F2)) [I x.fO,I x.fJ.fW,I x.fJ.fD,I x.fJ.fH,I x.fJ.fQ,I x.fU,v0,v1,I x.fR,v2] x:=⟨_,_,_,_,_,_,rfl,rfl,h0,h1,h2⟩
theorem Qwn {w:World} {x:Carton} {F0:List Nat} {v0:Value} (h0:rd w F0 [v0] x.qQ):rd w F0 [I x.qJ,I x.ft,v0] x:=⟨_,_,rfl,rfl,h0⟩
theorem Q7c {w:World} {x:Shelf} {F0:List Nat} {v0:Value} (h0:rd w F0 [v0] x.f9):rd w F0 [v0,I x.fW,I x.fD,I x.fH,I x.fQ] x:=⟨_,_,rfl,rfl,h0⟩
theorem Je0 {w:World} {x:Layer} {F0:List Nat} {v0:Value} (h0:rd w F0 [v0] x.fP):rd w F0 [v0,I x.fD,I x.fH,I x.fQ] x:=⟨_,_,rfl,rfl,h0⟩
theorem Q6v {w:World} {x:Plan} {F0 F1:List Nat} {v0 v1:Value} (h0:rd w F0 [v0] x.fK) (h1:rd w F1 [v1] x.qY):rd w (F0++F1) [v0,v1] x:=⟨_,_,_,_,rfl,rfl,h0,h1⟩
abbrev cR (x:Request) (a b c:Value):List Value:=[I x.fO,I x.fJ.fW,I x.fJ.fD,I x.fJ.fH,I x.fJ.fQ,I x.fU,a,b,I x.fR,c]
instance:Tys Tryz.prog where
 fa:=[(96,2,2),(96,1,1),(96,0,0),(37,2,5),(37,3,6),(37,4,7),(51,1,1),(51,2,2),(51,3,3),(51,6,6),(37,6,9),(32,0,0),(32,1,1),(32,2,2),(32,3,3),(53,0,0),(53,1,1),(53,2,2),(53,3,3),(53,4,4),(53,5,5),(53,6,6),(51,0,0),(51,4,4),(51,5,5),(37,0,0),(37,1,1),(37,5,8),(93,0,0),(93,1,1),(73,0,0),(73,2,2),(86,0,0),(86,1,1),(86,2,2),(86,3,3),(147,1,1),(147,4,4),(147,0,0),(147,2,2),(147,3,3),(145,1,1),(145,3,3),(145,0,0),(145,2,2),(143,1,1),(143,2,2),(143,0,0),(75,0,0),(43,0,0),(73,1,1),(43,1,1),(220,0,0),(220,1,1),(75,1,1),(75,2,2),(75,3,3)]
 hfa:=fC Jfx (fC Jhf (fC Jfz (fC Q7m (fC Quu (fC Qii (fC Jcm (fC Jch (fC Jby (fC Jhy (fC Qsf (fC Jic (fC Jgl (fC Jhv (fC Jg0 (fC Jh8 (fC Q8v (fC Q9m (fC Q68 (fC Jhx (fC Jci (fC Q6b (fC Jbu (fC Jg1 (fC Jf8 (fC Jbi (fC Q70 (fC Jck (fC Jgs (fC Jft (fC Jf1 (fC Jif (fC Q8m (fC Q9o (fC Q83 (fC Q67 (fC Q04 (fC Qu1 (fC Q7v (fC Qu7 (fC Qvn (fC Q1h (fC Qvb (fC Q50 (fC Qvh (fC Qz8 (fC Q1k (fC Q9i (fC Jg6 (fC Q9n (fC Jh5 (fC Q6u (fC Qz3 (fC Jes (fC Jh2 (fC Jh6 (fC Jfv fN))))))))))))))))))))))))))))))))))))))))))))))))))))))))
 ts:=[(22,1),(71,1),(33,2),(34,7),(35,7),(83,1),(85,4),(136,5),(138,4),(140,3),(41,4),(40,3),(66,1)]
 hts:=fC Jls (fC Qr8 (fC Jk0 (fC Je4 (fC Jhp (fC Q5v (fC Jlg (fC Jdt (fC Jal (fC Jaq (fC Jlq (fC Jky (fC Jj6 fN))))))))))))
 t1:=[5,3,22,33,34,35,71,40,41,4,66,9]
 ht1:=fC t15 (fC t13 (fC Jld (fC Jkr (fC Q94 (fC Jd0 (fC Q5g (fC Jjq (fC Jll (fC t14 (fC Jlk (fC t19 fN)))))))))))
 ta:=[(51,7),(37,10),(32,4),(53,7),(93,2),(73,3),(86,4),(75,4),(43,2),(220,2)]
 hta:=fC Jgg (fC Qwk (fC Jlc (fC Q5w (fC Jle (fC Jew (fC Q79 (fC Jlf (fC Je9 (fC Jf0 fN)))))))))
 sl:=[22,33,34,35,40,41,66,71,83,85,136,138,140]
 hsl:=fC ⟨_,Tryz.underlying22⟩ (fC ⟨_,Tryz.underlying33⟩ (fC ⟨_,Tryz.underlying34⟩ (fC ⟨_,Tryz.underlying35⟩ (fC ⟨_,Tryz.underlying40⟩ (fC ⟨_,Tryz.underlying41⟩ (fC ⟨_,Tryz.underlying66⟩ (fC ⟨_,Tryz.underlying71⟩ (fC ⟨_,Tryz.underlying83⟩ (fC ⟨_,Tryz.underlying85⟩ (fC ⟨_,Tryz.underlying136⟩ (fC ⟨_,Tryz.underlying138⟩ (fC ⟨_,Tryz.underlying140⟩ fN))))))))))))

end Go.Proofs.YtndfoffokpdjeaaGreatDoor
