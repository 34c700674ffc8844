/- FnPackText: facts on.. -/
import Derived.Test.YtndfoffokpdjeaaGreatDoorPackTextBD
import Derived.Test.YtndfoffokpdjeaaGreatDoorS9
import Derived.Test.YtndfoffokpdjeaaGreatDoorS12
import Derived.Test.YtndfoffokpdjeaaGreatDoorS15
import Derived.Test.YtndfoffokpdjeaaGreatDoorS17
import Derived.Test.YtndfoffokpdjeaaGreatDoorS20
import Derived.Test.YtndfoffokpdjeaaGreatDoorS26
import Derived.Test.YtndfoffokpdjeaaGreatDoorProg
import Derived.Test.YtndfoffokpdjeaaGreatDoorS22
import Derived.Test.YtndfoffokpdjeaaGreatDoorS19
import Derived.Test.YtndfoffokpdjeaaGreatDoorS23
import Derived.Test.YtndfoffokpdjeaaGreatDoorShelf
set_option maxRecDepth 20000
set_option linter.unusedSimpArgs false
set_option linter.unusedVariables false
set_option linter.unnecessarySimpa false
namespace Go.Proofs.YtndfoffokpdjeaaGreatDoor
open Go Go.RowKit
open Enc (rd ow)
open Arg (argv)
open Ret (retv)
open Go.Proofs.Tryz

theorem Qgf:Tryz.prog.follows .mixedOrders=true:=by kernel_rfl
theorem Jh0:TS Tryz.prog 22 1:=⟨5,Tryz.underlying22,Tryz.sizeOf5⟩
theorem t15:T1 Tryz.prog 5:=⟨λw=>by simp [isAgg,run_underlying Tryz.underlying5],Tryz.sizeOf5⟩
theorem Jn3:BT Tryz.prog 96 [.slice none 0 0,I 0,I 0] #[(0,1),(1,1),(2,1)]:=⟨Tryz.zeroValue96,_,Tryz.underlying96,λw=>by simp [Tryz.sizeOf22,Tryz.sizeOf3]⟩
theorem Jjq:FA Tryz.prog 96 2 2:=Qes (n:=0) Tryz.underlying96 z z Tryz.sizeOf3
theorem t13:T1 Tryz.prog 3:=⟨λw=>by simp [isAgg,run_underlying Tryz.underlying3],Tryz.sizeOf3⟩
theorem Ji8:FA Tryz.prog 96 1 1:=Qes (n:=0) Tryz.underlying96 z z Tryz.sizeOf3
theorem Jjp:FA Tryz.prog 96 0 0:=Qes (n:=0) Tryz.underlying96 z z Tryz.sizeOf22
theorem Jog:T1 Tryz.prog 22:=⟨λw=>by simp [isAgg,run_underlying Tryz.underlying22],Tryz.sizeOf22⟩
theorem Qlm:TS Tryz.prog 71 1:=⟨3,Tryz.underlying71,Tryz.sizeOf3⟩
theorem Qbe:TE Tryz.prog 71 1 8 [I 0]:=⟨3,Tryz.t3,Tryz.underlying71,Tryz.type3,⟨_,z,z⟩,z,z,z,by decide⟩
theorem Jlc:BT Tryz.prog 32 [I 0,I 0,I 0,I 0] #[(0,1),(1,1),(2,1),(3,1)]:=⟨Tryz.zeroValue32,_,Tryz.underlying32,λw=>by simp [Tryz.sizeOf3]⟩
theorem Q56:BT Tryz.prog 37 [I 0,I 0,I 0,I 0,I 0,I 0,.slice none 0 0,.slice none 0 0,I 0,.slice none 0 0] #[(0,1),(1,4),(5,1),(6,1),(7,1),(8,1),(9,1)]:=⟨Tryz.zeroValue37,_,Tryz.underlying37,λw=>by simp [Tryz.sizeOf3,Tryz.sizeOf32,Tryz.sizeOf33,Tryz.sizeOf34,Tryz.sizeOf35]⟩
theorem Ja8:FA Tryz.prog 37 2 5:=Qes (n:=0) Tryz.underlying37 z z Tryz.sizeOf3
theorem Qtb:FA Tryz.prog 37 3 6:=Qes (n:=0) Tryz.underlying37 z z Tryz.sizeOf33
theorem Jla:T1 Tryz.prog 33:=⟨λw=>by simp [isAgg,run_underlying Tryz.underlying33],Tryz.sizeOf33⟩
theorem Jf4:BT Tryz.prog 93 [I 0,I 0] #[(0,1),(1,1)]:=⟨Tryz.zeroValue93,_,Tryz.underlying93,λw=>by simp [Tryz.sizeOf3]⟩
theorem Q6q:TE Tryz.prog 33 2 16 [I 0,I 0]:=⟨93,Tryz.t93,Tryz.underlying33,Tryz.type93,⟨_,z,z⟩,z,z,z,by decide⟩
theorem Qie:FA Tryz.prog 37 4 7:=Qes (n:=0) Tryz.underlying37 z z Tryz.sizeOf34
theorem Jjj:T1 Tryz.prog 34:=⟨λw=>by simp [isAgg,run_underlying Tryz.underlying34],Tryz.sizeOf34⟩
theorem Q49:BT Tryz.prog 53 [I 0,I 0,I 0,I 0,I 0,I 0,I 0] #[(0,1),(1,1),(2,1),(3,1),(4,1),(5,1),(6,1)]:=⟨Tryz.zeroValue53,_,Tryz.underlying53,λw=>by simp [Tryz.sizeOf3]⟩
theorem Qva:TE Tryz.prog 34 7 56 [I 0,I 0,I 0,I 0,I 0,I 0,I 0]:=⟨53,Tryz.t53,Tryz.underlying34,Tryz.type53,⟨_,z,z⟩,z,z,z,by decide⟩
theorem Jbf:BT Tryz.prog 51 [I 0,I 0,I 0,I 0,I 0,I 0,I 0] #[(0,1),(1,1),(2,1),(3,1),(4,1),(5,1),(6,1)]:=⟨Tryz.zeroValue51,_,Tryz.underlying51,λw=>by simp [Tryz.sizeOf3]⟩
theorem Jeu:FA Tryz.prog 51 1 1:=Qes (n:=0) Tryz.underlying51 z z Tryz.sizeOf3
theorem Je0:FA Tryz.prog 51 2 2:=Qes (n:=0) Tryz.underlying51 z z Tryz.sizeOf3
theorem Jez:FA Tryz.prog 51 3 3:=Qes (n:=0) Tryz.underlying51 z z Tryz.sizeOf3
theorem Jkb:FA Tryz.prog 51 6 6:=Qes (n:=0) Tryz.underlying51 z z Tryz.sizeOf3
theorem Quq:FA Tryz.prog 37 6 9:=Qes (n:=0) Tryz.underlying37 z z Tryz.sizeOf35
theorem Jk6:T1 Tryz.prog 35:=⟨λw=>by simp [isAgg,run_underlying Tryz.underlying35],Tryz.sizeOf35⟩
theorem Jkz:TA Tryz.prog 51 7:=⟨Tryz.isAgg51,Tryz.sizeOf51⟩
theorem Q3x:TE Tryz.prog 35 7 56 [I 0,I 0,I 0,I 0,I 0,I 0,I 0]:=⟨51,Tryz.t51,Tryz.underlying35,Tryz.type51,⟨_,z,z⟩,z,z,z,by decide⟩
theorem Qyg:TA Tryz.prog 37 10:=⟨Tryz.isAgg37,Tryz.sizeOf37⟩
theorem Jej:FA Tryz.prog 37 0 0:=Qes (n:=0) Tryz.underlying37 z z Tryz.sizeOf3
theorem Q7p:FA Tryz.prog 37 1 1:=Qes (n:=3) Tryz.underlying37 z z Tryz.sizeOf32
theorem Jih:FA Tryz.prog 32 0 0:=Qes (n:=0) Tryz.underlying32 z z Tryz.sizeOf3
theorem Jkh:FA Tryz.prog 32 3 3:=Qes (n:=0) Tryz.underlying32 z z Tryz.sizeOf3
theorem Jkn:TS Tryz.prog 34 7:=⟨53,Tryz.underlying34,Tryz.sizeOf53⟩
theorem Q9y:FA Tryz.prog 53 2 2:=Qes (n:=0) Tryz.underlying53 z z Tryz.sizeOf3
theorem Jd2:FA Tryz.prog 53 5 5:=Qes (n:=0) Tryz.underlying53 z z Tryz.sizeOf3
theorem Jei:FA Tryz.prog 37 5 8:=Qes (n:=0) Tryz.underlying37 z z Tryz.sizeOf3
theorem Jlf:TS Tryz.prog 35 7:=⟨51,Tryz.underlying35,Tryz.sizeOf51⟩
theorem Jlg:TS Tryz.prog 33 2:=⟨93,Tryz.underlying33,Tryz.sizeOf93⟩
theorem Q8i:TA Tryz.prog 53 7:=⟨Tryz.isAgg53,Tryz.sizeOf53⟩
theorem Qyn:TE Tryz.prog 66 1 16 [.string ⟨#[]⟩]:=⟨9,Tryz.t9,Tryz.underlying66,Tryz.type9,⟨_,z,z⟩,z,z,z,by decide⟩
theorem Jkg:FA Tryz.prog 32 1 1:=Qes (n:=0) Tryz.underlying32 z z Tryz.sizeOf3
theorem Jis:FA Tryz.prog 32 2 2:=Qes (n:=0) Tryz.underlying32 z z Tryz.sizeOf3
theorem Qve:TE Tryz.prog 83 1 24 [.slice none 0 0]:=⟨71,Tryz.t71,Tryz.underlying83,Tryz.type71,⟨_,z,z⟩,z,z,z,by decide⟩
theorem Jer:FA Tryz.prog 93 0 0:=Qes (n:=0) Tryz.underlying93 z z Tryz.sizeOf3
theorem Jev:FA Tryz.prog 93 1 1:=Qes (n:=0) Tryz.underlying93 z z Tryz.sizeOf3
theorem Jig:FA Tryz.prog 53 0 0:=Qes (n:=0) Tryz.underlying53 z z Tryz.sizeOf3
theorem Jaz:FA Tryz.prog 53 1 1:=Qes (n:=0) Tryz.underlying53 z z Tryz.sizeOf3
theorem Q8u:FA Tryz.prog 53 3 3:=Qes (n:=0) Tryz.underlying53 z z Tryz.sizeOf3
theorem Jk0:FA Tryz.prog 53 4 4:=Qes (n:=0) Tryz.underlying53 z z Tryz.sizeOf3
theorem Jkj:FA Tryz.prog 53 6 6:=Qes (n:=0) Tryz.underlying53 z z Tryz.sizeOf3
theorem Jh7:FA Tryz.prog 51 0 0:=Qes (n:=0) Tryz.underlying51 z z Tryz.sizeOf3
theorem Jjt:FA Tryz.prog 51 4 4:=Qes (n:=0) Tryz.underlying51 z z Tryz.sizeOf3
theorem Jke:FA Tryz.prog 51 5 5:=Qes (n:=0) Tryz.underlying51 z z Tryz.sizeOf3
theorem Jol:TE Tryz.prog 22 1 1 [.int .u8 0]:=⟨5,Tryz.t5,Tryz.underlying22,Tryz.type5,⟨_,z,z⟩,z,z,z,by decide⟩
theorem Jle:TS Tryz.prog 66 1:=⟨9,Tryz.underlying66,Tryz.sizeOf9⟩
theorem t19:T1 Tryz.prog 9:=⟨λw=>by simp [isAgg,run_underlying Tryz.underlying9],Tryz.sizeOf9⟩
theorem Q8o:TS Tryz.prog 83 1:=⟨71,Tryz.underlying83,Tryz.sizeOf71⟩
theorem Q6p:T1 Tryz.prog 71:=⟨λw=>by simp [isAgg,run_underlying Tryz.underlying71],Tryz.sizeOf71⟩
theorem Jon:TA Tryz.prog 32 4:=⟨Tryz.isAgg32,Tryz.sizeOf32⟩
theorem Joq:TA Tryz.prog 93 2:=⟨Tryz.isAgg93,Tryz.sizeOf93⟩
theorem Jne:SEq Tryz.prog 93 Pair:=Jgp Tryz.underlying93 Tryz.stoodInHeld93 Tryz.eqGuardType93 Tryz.underlying3 z
theorem Jcp:TE Tryz.prog 40 3 40 [I 0,I 0,.slice none 0 0]:=⟨73,Tryz.t73,Tryz.underlying40,Tryz.type73,⟨_,z,z⟩,z,z,z,by decide⟩
theorem Jhm:BT Tryz.prog 73 [I 0,I 0,.slice none 0 0] #[(0,1),(1,1),(2,1)]:=⟨Tryz.zeroValue73,_,Tryz.underlying73,λw=>by simp [Tryz.sizeOf3,Tryz.sizeOf71]⟩
theorem Ji2:FA Tryz.prog 73 0 0:=Qes (n:=0) Tryz.underlying73 z z Tryz.sizeOf3
theorem Jkk:FA Tryz.prog 73 2 2:=Qes (n:=0) Tryz.underlying73 z z Tryz.sizeOf71
theorem Jhx:BT Tryz.prog 86 [I 0,I 0,I 0,I 0] #[(0,1),(1,1),(2,1),(3,1)]:=⟨Tryz.zeroValue86,_,Tryz.underlying86,λw=>by simp [Tryz.sizeOf3]⟩
theorem Q60:TA Tryz.prog 73 3:=⟨Tryz.isAgg73,Tryz.sizeOf73⟩
theorem Q8v:TA Tryz.prog 86 4:=⟨Tryz.isAgg86,Tryz.sizeOf86⟩
theorem Ja2:FA Tryz.prog 86 0 0:=Qes (n:=0) Tryz.underlying86 z z Tryz.sizeOf3
theorem Q9s:FA Tryz.prog 86 1 1:=Qes (n:=0) Tryz.underlying86 z z Tryz.sizeOf3
theorem Q92:FA Tryz.prog 86 2 2:=Qes (n:=0) Tryz.underlying86 z z Tryz.sizeOf3
theorem Jab:FA Tryz.prog 86 3 3:=Qes (n:=0) Tryz.underlying86 z z Tryz.sizeOf3
theorem Jos:TS Tryz.prog 85 4:=⟨86,Tryz.underlying85,Tryz.sizeOf86⟩
theorem Qwc:TE Tryz.prog 136 5 56 [.slice none 0 0,I 0,I 0,I 0,I 0]:=⟨147,Tryz.t147,Tryz.underlying136,Tryz.type147,⟨_,z,z⟩,z,z,z,by decide⟩
theorem Jfe:TS Tryz.prog 136 5:=⟨147,Tryz.underlying136,Tryz.sizeOf147⟩
theorem Q2k:FA Tryz.prog 147 1 1:=Qes (n:=0) Tryz.underlying147 z z Tryz.sizeOf3
theorem Qw5:FA Tryz.prog 147 4 4:=Qes (n:=0) Tryz.underlying147 z z Tryz.sizeOf3
theorem Q14:BT Tryz.prog 147 [.slice none 0 0,I 0,I 0,I 0,I 0] #[(0,1),(1,1),(2,1),(3,1),(4,1)]:=⟨Tryz.zeroValue147,_,Tryz.underlying147,λw=>by simp [Tryz.sizeOf3,Tryz.sizeOf71]⟩
theorem Jau:FA Tryz.prog 147 0 0:=Qes (n:=0) Tryz.underlying147 z z Tryz.sizeOf71
theorem Qwr:FA Tryz.prog 147 2 2:=Qes (n:=0) Tryz.underlying147 z z Tryz.sizeOf3
theorem Qw8:FA Tryz.prog 147 3 3:=Qes (n:=0) Tryz.underlying147 z z Tryz.sizeOf3
theorem Q3z:TA Tryz.prog 147 5:=⟨Tryz.isAgg147,Tryz.sizeOf147⟩
theorem Qwf:TE Tryz.prog 138 4 48 [.slice none 0 0,I 0,I 0,I 0]:=⟨145,Tryz.t145,Tryz.underlying138,Tryz.type145,⟨_,z,z⟩,z,z,z,by decide⟩
theorem Jci:TS Tryz.prog 138 4:=⟨145,Tryz.underlying138,Tryz.sizeOf145⟩
theorem Q3u:FA Tryz.prog 145 1 1:=Qes (n:=0) Tryz.underlying145 z z Tryz.sizeOf3
theorem Qw9:FA Tryz.prog 145 3 3:=Qes (n:=0) Tryz.underlying145 z z Tryz.sizeOf3
theorem Q3n:BT Tryz.prog 145 [.slice none 0 0,I 0,I 0,I 0] #[(0,1),(1,1),(2,1),(3,1)]:=⟨Tryz.zeroValue145,_,Tryz.underlying145,λw=>by simp [Tryz.sizeOf3,Tryz.sizeOf71]⟩
theorem Q9d:FA Tryz.prog 145 0 0:=Qes (n:=0) Tryz.underlying145 z z Tryz.sizeOf71
theorem Qwo:FA Tryz.prog 145 2 2:=Qes (n:=0) Tryz.underlying145 z z Tryz.sizeOf3
theorem Q9a:TA Tryz.prog 145 4:=⟨Tryz.isAgg145,Tryz.sizeOf145⟩
theorem Qv9:TE Tryz.prog 140 3 40 [.slice none 0 0,I 0,I 0]:=⟨143,Tryz.t143,Tryz.underlying140,Tryz.type143,⟨_,z,z⟩,z,z,z,by decide⟩
theorem Jce:TS Tryz.prog 140 3:=⟨143,Tryz.underlying140,Tryz.sizeOf143⟩
theorem Q3e:FA Tryz.prog 143 1 1:=Qes (n:=0) Tryz.underlying143 z z Tryz.sizeOf3
theorem Q3d:FA Tryz.prog 143 2 2:=Qes (n:=0) Tryz.underlying143 z z Tryz.sizeOf3
theorem Q24:BT Tryz.prog 143 [.slice none 0 0,I 0,I 0] #[(0,1),(1,1),(2,1)]:=⟨Tryz.zeroValue143,_,Tryz.underlying143,λw=>by simp [Tryz.sizeOf3,Tryz.sizeOf71]⟩
theorem Jbt:FA Tryz.prog 143 0 0:=Qes (n:=0) Tryz.underlying143 z z Tryz.sizeOf71
theorem Jb5:TE Tryz.prog 41 4 32 [I 0,I 0,I 0,I 0]:=⟨75,Tryz.t75,Tryz.underlying41,Tryz.type75,⟨_,z,z⟩,z,z,z,by decide⟩
theorem Jj2:TA Tryz.prog 143 3:=⟨Tryz.isAgg143,Tryz.sizeOf143⟩
theorem Jhz:BT Tryz.prog 75 [I 0,I 0,I 0,I 0] #[(0,1),(1,1),(2,1),(3,1)]:=⟨Tryz.zeroValue75,_,Tryz.underlying75,λw=>by simp [Tryz.sizeOf3]⟩
theorem Joe:TS Tryz.prog 41 4:=⟨75,Tryz.underlying41,Tryz.sizeOf75⟩
theorem Jho:TA Tryz.prog 75 4:=⟨Tryz.isAgg75,Tryz.sizeOf75⟩
theorem Jiq:FA Tryz.prog 75 0 0:=Qes (n:=0) Tryz.underlying75 z z Tryz.sizeOf3
theorem Jcg:BT Tryz.prog 43 [.slice none 0 0,.slice none 0 0] #[(0,1),(1,1)]:=⟨Tryz.zeroValue43,_,Tryz.underlying43,λw=>by simp [Tryz.sizeOf40,Tryz.sizeOf41]⟩
theorem Jch:TA Tryz.prog 43 2:=⟨Tryz.isAgg43,Tryz.sizeOf43⟩
theorem Jhq:TE Tryz.prog 85 4 32 [I 0,I 0,I 0,I 0]:=⟨86,Tryz.t86,Tryz.underlying85,Tryz.type86,⟨_,z,z⟩,z,z,z,by decide⟩
theorem Q9w:FA Tryz.prog 43 0 0:=Qes (n:=0) Tryz.underlying43 z z Tryz.sizeOf40
theorem Jn7:T1 Tryz.prog 40:=⟨λw=>by simp [isAgg,run_underlying Tryz.underlying40],Tryz.sizeOf40⟩
theorem Jnw:TS Tryz.prog 40 3:=⟨73,Tryz.underlying40,Tryz.sizeOf73⟩
theorem Jj1:FA Tryz.prog 73 1 1:=Qes (n:=0) Tryz.underlying73 z z Tryz.sizeOf3
theorem Q7j:FA Tryz.prog 43 1 1:=Qes (n:=0) Tryz.underlying43 z z Tryz.sizeOf41
theorem Jok:T1 Tryz.prog 41:=⟨λw=>by simp [isAgg,run_underlying Tryz.underlying41],Tryz.sizeOf41⟩
theorem Jjr:FA Tryz.prog 75 1 1:=Qes (n:=0) Tryz.underlying75 z z Tryz.sizeOf3
theorem Jja:FA Tryz.prog 75 2 2:=Qes (n:=0) Tryz.underlying75 z z Tryz.sizeOf3
theorem Jj3:FA Tryz.prog 75 3 3:=Qes (n:=0) Tryz.underlying75 z z Tryz.sizeOf3
theorem Jmg:BT Tryz.prog 220 [I 0,I 0] #[(0,1),(1,1)]:=⟨Tryz.zeroValue220,_,Tryz.underlying220,λw=>by simp [Tryz.sizeOf3]⟩
theorem Q2i:FA Tryz.prog 220 0 0:=Qes (n:=0) Tryz.underlying220 z z Tryz.sizeOf3
theorem Jg7:FA Tryz.prog 220 1 1:=Qes (n:=0) Tryz.underlying220 z z Tryz.sizeOf3
theorem Jkc:TA Tryz.prog 220 2:=⟨Tryz.isAgg220,Tryz.sizeOf220⟩
theorem Jgv:FD Tryz.prog 220 0 0 1 false:=⟨_,_,Tryz.underlying220,z,z,(λw=>by simp [isAgg,run_underlying Tryz.underlying3]),Tryz.sizeOf3⟩
theorem Qac {w:World} {x:Request} {F0 F1 F2:List Nat} {v0 v1 v2:Value} (h0:rd w F0 [v0] x.fT) (h1:rd w F1 [v1] x.fG) (h2:rd w F2 [v2] x.fV):rd w (F0++(F1++F2)) [I x.f9,I x.fJ.fW,I x.fJ.fD,I x.fJ.fH,I x.fJ.fQ,I x.fU,v0,v1,I x.fR,v2] x:=⟨_,_,_,_,_,_,rfl,rfl,h0,h1,h2⟩
theorem Qvd {w:World} {x:Carton} {F0:List Nat} {v0:Value} (h0:rd w F0 [v0] x.fl):rd w F0 [I x.qQ,I x.fk,v0] x:=⟨_,_,rfl,rfl,h0⟩
theorem Jbh {w:World} {x:Shelf} {F0:List Nat} {v0:Value} (h0:rd w F0 [v0] x.f0):rd w F0 [v0,I x.fW,I x.fD,I x.fH,I x.fQ] x:=⟨_,_,rfl,rfl,h0⟩
theorem Jf1 {w:World} {x:Layer} {F0:List Nat} {v0:Value} (h0:rd w F0 [v0] x.fP):rd w F0 [v0,I x.fD,I x.fH,I x.fQ] x:=⟨_,_,rfl,rfl,h0⟩
theorem Q6e {w:World} {x:Plan} {F0 F1:List Nat} {v0 v1:Value} (h0:rd w F0 [v0] x.fE) (h1:rd w F1 [v1] x.ft):rd w (F0++F1) [v0,v1] x:=⟨_,_,_,_,rfl,rfl,h0,h1⟩
abbrev cR (x:Request) (a b c:Value):List Value:=[I x.f9,I x.fJ.fW,I x.fJ.fD,I x.fJ.fH,I x.fJ.fQ,I x.fU,a,b,I x.fR,c]
instance:Tys Tryz.prog where
 fa:=[(96,2,2),(96,1,1),(96,0,0),(37,2,5),(37,3,6),(37,4,7),(51,1,1),(51,2,2),(51,3,3),(51,6,6),(37,6,9),(37,0,0),(37,1,1),(32,0,0),(32,3,3),(53,2,2),(53,5,5),(37,5,8),(32,1,1),(32,2,2),(93,0,0),(93,1,1),(53,0,0),(53,1,1),(53,3,3),(53,4,4),(53,6,6),(51,0,0),(51,4,4),(51,5,5),(73,0,0),(73,2,2),(86,0,0),(86,1,1),(86,2,2),(86,3,3),(147,1,1),(147,4,4),(147,0,0),(147,2,2),(147,3,3),(145,1,1),(145,3,3),(145,0,0),(145,2,2),(143,1,1),(143,2,2),(143,0,0),(75,0,0),(43,0,0),(73,1,1),(43,1,1),(75,1,1),(75,2,2),(75,3,3),(220,0,0),(220,1,1)]
 hfa:=fC Jjq (fC Ji8 (fC Jjp (fC Ja8 (fC Qtb (fC Qie (fC Jeu (fC Je0 (fC Jez (fC Jkb (fC Quq (fC Jej (fC Q7p (fC Jih (fC Jkh (fC Q9y (fC Jd2 (fC Jei (fC Jkg (fC Jis (fC Jer (fC Jev (fC Jig (fC Jaz (fC Q8u (fC Jk0 (fC Jkj (fC Jh7 (fC Jjt (fC Jke (fC Ji2 (fC Jkk (fC Ja2 (fC Q9s (fC Q92 (fC Jab (fC Q2k (fC Qw5 (fC Jau (fC Qwr (fC Qw8 (fC Q3u (fC Qw9 (fC Q9d (fC Qwo (fC Q3e (fC Q3d (fC Jbt (fC Jiq (fC Q9w (fC Jj1 (fC Q7j (fC Jjr (fC Jja (fC Jj3 (fC Q2i (fC Jg7 fN))))))))))))))))))))))))))))))))))))))))))))))))))))))))
 ts:=[(22,1),(71,1),(34,7),(35,7),(33,2),(66,1),(83,1),(85,4),(136,5),(138,4),(140,3),(41,4),(40,3)]
 hts:=fC Jh0 (fC Qlm (fC Jkn (fC Jlf (fC Jlg (fC Jle (fC Q8o (fC Jos (fC Jfe (fC Jci (fC Jce (fC Joe (fC Jnw fN))))))))))))
 t1:=[5,3,22,33,34,35,9,71,40,41]
 ht1:=fC t15 (fC t13 (fC Jog (fC Jla (fC Jjj (fC Jk6 (fC t19 (fC Q6p (fC Jn7 (fC Jok fN)))))))))
 ta:=[(51,7),(37,10),(53,7),(32,4),(93,2),(73,3),(86,4),(75,4),(43,2),(220,2)]
 hta:=fC Jkz (fC Qyg (fC Q8i (fC Jon (fC Joq (fC Q60 (fC Q8v (fC Jho (fC Jch (fC Jkc fN)))))))))
 sl:=[22,33,34,35,40,41,66,71,83,85,136,138,140]
 hsl:=fC ⟨_,Tryz.underlying22⟩ (fC ⟨_,Tryz.underlying33⟩ (fC ⟨_,Tryz.underlying34⟩ (fC ⟨_,Tryz.underlying35⟩ (fC ⟨_,Tryz.underlying40⟩ (fC ⟨_,Tryz.underlying41⟩ (fC ⟨_,Tryz.underlying66⟩ (fC ⟨_,Tryz.underlying71⟩ (fC ⟨_,Tryz.underlying83⟩ (fC ⟨_,Tryz.underlying85⟩ (fC ⟨_,Tryz.underlying136⟩ (fC ⟨_,Tryz.underlying138⟩ (fC ⟨_,Tryz.underlying140⟩ fN))))))))))))

abbrev cS (n:Nat) (l:List Value) (u:World) (v:Value):Prop:=Calls Tryz.prog n l.toArray u λe w=>e=.returned v∧Ext [] u w
abbrev cL {α:Type} [Enc α] (n:Nat) (l:List Value) (u:World) (r:α):Prop:=Calls Tryz.prog n l.toArray u λe w=>∃ (v:Value) (G:List Nat),e=.returned v∧Ext [] u w∧ow w G [v] r∧∀ b∈G,u.heap.size≤b
end Go.Proofs.YtndfoffokpdjeaaGreatDoor
