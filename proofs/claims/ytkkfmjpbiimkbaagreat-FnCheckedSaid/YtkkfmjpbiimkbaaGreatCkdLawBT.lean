/- FnChecked: facts on types of the functions that it reaches. Printed by gen.py. -/
import Derived.Test.YtkkfmjpbiimkbaaGreatCkdLawBD
import Derived.Test.YtkkfmjpbiimkbaaGreatS9
import Derived.Test.YtkkfmjpbiimkbaaGreatS12
import Derived.Test.YtkkfmjpbiimkbaaGreatS15
import Derived.Test.YtkkfmjpbiimkbaaGreatS17
import Derived.Test.YtkkfmjpbiimkbaaGreatS20
import Derived.Test.YtkkfmjpbiimkbaaGreatProg
import Derived.Test.YtkkfmjpbiimkbaaGreatShelf
set_option maxRecDepth 20000
set_option linter.unusedSimpArgs false
set_option linter.unusedVariables false
set_option linter.unnecessarySimpa false
namespace Go.Proofs.YtkkfmjpbiimkbaaGreat
open Go Go.RowKit
open Enc (rd ow)
open Arg (argv)
open Ret (retv)
open Go.Proofs.Tryz

theorem Qhb:Tryz.prog.follows .mixedOrders = true:=by kernel_rfl
theorem Jgv:TS Tryz.prog 73 1:=⟨5,Tryz.underlying73,Tryz.sizeOf5⟩
theorem t15:T1 Tryz.prog 5:=⟨fun w=>by simp [isAgg,run_underlying Tryz.underlying5],Tryz.sizeOf5⟩
theorem Jdk:BT Tryz.prog 250 [.slice none 0 0,I 0,I 0] #[(0,1),(1,1),(2,1)]:=⟨Tryz.zeroValue250,_,Tryz.underlying250,fun w=>by simp [Tryz.sizeOf3,Tryz.sizeOf73]⟩
theorem Q0t:FA Tryz.prog 250 2 2:=Qf3 (n:=0) Tryz.underlying250 z z Tryz.sizeOf3
theorem t13:T1 Tryz.prog 3:=⟨fun w=>by simp [isAgg,run_underlying Tryz.underlying3],Tryz.sizeOf3⟩
theorem Q1j:FA Tryz.prog 250 1 1:=Qf3 (n:=0) Tryz.underlying250 z z Tryz.sizeOf3
theorem Q7h:FA Tryz.prog 250 0 0:=Qf3 (n:=0) Tryz.underlying250 z z Tryz.sizeOf73
theorem Jgu:T1 Tryz.prog 73:=⟨fun w=>by simp [isAgg,run_underlying Tryz.underlying73],Tryz.sizeOf73⟩
theorem Qhh:TS Tryz.prog 63 1:=⟨3,Tryz.underlying63,Tryz.sizeOf3⟩
theorem Qb8:TE Tryz.prog 63 1 8 [I 0]:=⟨3,Tryz.t3,Tryz.underlying63,Tryz.type3,⟨_,z,z⟩,z,z,z,by decide⟩
theorem Jgz:BT Tryz.prog 33 [I 0,I 0,I 0,I 0] #[(0,1),(1,1),(2,1),(3,1)]:=⟨Tryz.zeroValue33,_,Tryz.underlying33,fun w=>by simp [Tryz.sizeOf3]⟩
theorem Jhb:BT Tryz.prog 38 [I 0,I 0,I 0,I 0,I 0,I 0,.slice none 0 0,.slice none 0 0,I 0,.slice none 0 0] #[(0,1),(1,4),(5,1),(6,1),(7,1),(8,1),(9,1)]:=⟨Tryz.zeroValue38,_,Tryz.underlying38,fun w=>by simp [Tryz.sizeOf3,Tryz.sizeOf33,Tryz.sizeOf34,Tryz.sizeOf35,Tryz.sizeOf36]⟩
theorem Qs3:FA Tryz.prog 38 2 5:=Qf3 (n:=0) Tryz.underlying38 z z Tryz.sizeOf3
theorem Qnp:FA Tryz.prog 38 3 6:=Qf3 (n:=0) Tryz.underlying38 z z Tryz.sizeOf34
theorem Qz0:T1 Tryz.prog 34:=⟨fun w=>by simp [isAgg,run_underlying Tryz.underlying34],Tryz.sizeOf34⟩
theorem Q7d:BT Tryz.prog 180 [I 0,I 0] #[(0,1),(1,1)]:=⟨Tryz.zeroValue180,_,Tryz.underlying180,fun w=>by simp [Tryz.sizeOf3]⟩
theorem Jcp:TE Tryz.prog 34 2 16 [I 0,I 0]:=⟨180,Tryz.t180,Tryz.underlying34,Tryz.type180,⟨_,z,z⟩,z,z,z,by decide⟩
theorem Qec:FA Tryz.prog 38 4 7:=Qf3 (n:=0) Tryz.underlying38 z z Tryz.sizeOf35
theorem Qt0:T1 Tryz.prog 35:=⟨fun w=>by simp [isAgg,run_underlying Tryz.underlying35],Tryz.sizeOf35⟩
theorem Q35:BT Tryz.prog 79 [I 0,I 0,I 0,I 0,I 0,I 0,I 0] #[(0,1),(1,1),(2,1),(3,1),(4,1),(5,1),(6,1)]:=⟨Tryz.zeroValue79,_,Tryz.underlying79,fun w=>by simp [Tryz.sizeOf3]⟩
theorem Qwi:TE Tryz.prog 35 7 56 [I 0,I 0,I 0,I 0,I 0,I 0,I 0]:=⟨79,Tryz.t79,Tryz.underlying35,Tryz.type79,⟨_,z,z⟩,z,z,z,by decide⟩
theorem Q0x:BT Tryz.prog 158 [I 0,I 0,I 0,I 0,I 0,I 0,I 0] #[(0,1),(1,1),(2,1),(3,1),(4,1),(5,1),(6,1)]:=⟨Tryz.zeroValue158,_,Tryz.underlying158,fun w=>by simp [Tryz.sizeOf3]⟩
theorem Quy:FA Tryz.prog 158 1 1:=Qf3 (n:=0) Tryz.underlying158 z z Tryz.sizeOf3
theorem Quu:FA Tryz.prog 158 2 2:=Qf3 (n:=0) Tryz.underlying158 z z Tryz.sizeOf3
theorem Qtw:FA Tryz.prog 158 3 3:=Qf3 (n:=0) Tryz.underlying158 z z Tryz.sizeOf3
theorem Qt2:FA Tryz.prog 158 6 6:=Qf3 (n:=0) Tryz.underlying158 z z Tryz.sizeOf3
theorem Qgt:FA Tryz.prog 38 6 9:=Qf3 (n:=0) Tryz.underlying38 z z Tryz.sizeOf36
theorem Quw:T1 Tryz.prog 36:=⟨fun w=>by simp [isAgg,run_underlying Tryz.underlying36],Tryz.sizeOf36⟩
theorem Qsx:TA Tryz.prog 158 7:=⟨Tryz.isAgg158,Tryz.sizeOf158⟩
theorem Q8v:TE Tryz.prog 36 7 56 [I 0,I 0,I 0,I 0,I 0,I 0,I 0]:=⟨158,Tryz.t158,Tryz.underlying36,Tryz.type158,⟨_,z,z⟩,z,z,z,by decide⟩
theorem Qeg:TA Tryz.prog 38 10:=⟨Tryz.isAgg38,Tryz.sizeOf38⟩
theorem Qvr:FA Tryz.prog 33 0 0:=Qf3 (n:=0) Tryz.underlying33 z z Tryz.sizeOf3
theorem Qvn:FA Tryz.prog 33 1 1:=Qf3 (n:=0) Tryz.underlying33 z z Tryz.sizeOf3
theorem Qvk:FA Tryz.prog 33 2 2:=Qf3 (n:=0) Tryz.underlying33 z z Tryz.sizeOf3
theorem Qs1:FA Tryz.prog 33 3 3:=Qf3 (n:=0) Tryz.underlying33 z z Tryz.sizeOf3
theorem Qr7:FA Tryz.prog 79 0 0:=Qf3 (n:=0) Tryz.underlying79 z z Tryz.sizeOf3
theorem Qtu:FA Tryz.prog 79 1 1:=Qf3 (n:=0) Tryz.underlying79 z z Tryz.sizeOf3
theorem Qti:FA Tryz.prog 79 2 2:=Qf3 (n:=0) Tryz.underlying79 z z Tryz.sizeOf3
theorem Qt4:FA Tryz.prog 79 3 3:=Qf3 (n:=0) Tryz.underlying79 z z Tryz.sizeOf3
theorem Qz5:FA Tryz.prog 79 4 4:=Qf3 (n:=0) Tryz.underlying79 z z Tryz.sizeOf3
theorem Quj:FA Tryz.prog 79 5 5:=Qf3 (n:=0) Tryz.underlying79 z z Tryz.sizeOf3
theorem Qut:FA Tryz.prog 79 6 6:=Qf3 (n:=0) Tryz.underlying79 z z Tryz.sizeOf3
theorem Qvy:FA Tryz.prog 158 0 0:=Qf3 (n:=0) Tryz.underlying158 z z Tryz.sizeOf3
theorem Qt7:FA Tryz.prog 158 4 4:=Qf3 (n:=0) Tryz.underlying158 z z Tryz.sizeOf3
theorem Qs9:FA Tryz.prog 158 5 5:=Qf3 (n:=0) Tryz.underlying158 z z Tryz.sizeOf3
theorem Q42:FA Tryz.prog 38 0 0:=Qf3 (n:=0) Tryz.underlying38 z z Tryz.sizeOf3
theorem Qrw:FA Tryz.prog 38 1 1:=Qf3 (n:=3) Tryz.underlying38 z z Tryz.sizeOf33
theorem Q1a:TA Tryz.prog 33 4:=⟨Tryz.isAgg33,Tryz.sizeOf33⟩
theorem Q19:FA Tryz.prog 38 5 8:=Qf3 (n:=0) Tryz.underlying38 z z Tryz.sizeOf3
theorem Q80:TS Tryz.prog 34 2:=⟨180,Tryz.underlying34,Tryz.sizeOf180⟩
theorem Qyh:FA Tryz.prog 180 0 0:=Qf3 (n:=0) Tryz.underlying180 z z Tryz.sizeOf3
theorem Qxn:FA Tryz.prog 180 1 1:=Qf3 (n:=0) Tryz.underlying180 z z Tryz.sizeOf3
theorem Q1v:TS Tryz.prog 35 7:=⟨79,Tryz.underlying35,Tryz.sizeOf79⟩
theorem Qst:TA Tryz.prog 79 7:=⟨Tryz.isAgg79,Tryz.sizeOf79⟩
theorem Qyt:TS Tryz.prog 36 7:=⟨158,Tryz.underlying36,Tryz.sizeOf158⟩
theorem Q2u:TE Tryz.prog 29 1 24 [.slice none 0 0]:=⟨63,Tryz.t63,Tryz.underlying29,Tryz.type63,⟨_,z,z⟩,z,z,z,by decide⟩
theorem Qzw:TS Tryz.prog 29 1:=⟨63,Tryz.underlying29,Tryz.sizeOf63⟩
theorem Qrs:T1 Tryz.prog 63:=⟨fun w=>by simp [isAgg,run_underlying Tryz.underlying63],Tryz.sizeOf63⟩
theorem Jez:BT Tryz.prog 224 [I 0,I 0] #[(0,1),(1,1)]:=⟨Tryz.zeroValue224,_,Tryz.underlying224,fun w=>by simp [Tryz.sizeOf3]⟩
theorem Qyr:FA Tryz.prog 224 0 0:=Qf3 (n:=0) Tryz.underlying224 z z Tryz.sizeOf3
theorem Qwc:FA Tryz.prog 224 1 1:=Qf3 (n:=0) Tryz.underlying224 z z Tryz.sizeOf3
theorem Jec:TA Tryz.prog 224 2:=⟨Tryz.isAgg224,Tryz.sizeOf224⟩
theorem Ja9:FD Tryz.prog 224 0 0 1 false:=⟨_,_,Tryz.underlying224,z,z,(fun w=>by simp [isAgg,run_underlying Tryz.underlying3]),Tryz.sizeOf3⟩
theorem Q5d:TE Tryz.prog 55 3 40 [I 0,I 0,.slice none 0 0]:=⟨83,Tryz.t83,Tryz.underlying55,Tryz.type83,⟨_,z,z⟩,z,z,z,by decide⟩
theorem Jg3:BT Tryz.prog 83 [I 0,I 0,.slice none 0 0] #[(0,1),(1,1),(2,1)]:=⟨Tryz.zeroValue83,_,Tryz.underlying83,fun w=>by simp [Tryz.sizeOf3,Tryz.sizeOf63]⟩
theorem Qs4:FA Tryz.prog 83 0 0:=Qf3 (n:=0) Tryz.underlying83 z z Tryz.sizeOf3
theorem Qkf:FA Tryz.prog 83 2 2:=Qf3 (n:=0) Tryz.underlying83 z z Tryz.sizeOf63
theorem Jcq:BT Tryz.prog 86 [I 0,I 0,I 0,I 0] #[(0,1),(1,1),(2,1),(3,1)]:=⟨Tryz.zeroValue86,_,Tryz.underlying86,fun w=>by simp [Tryz.sizeOf3]⟩
theorem Qxd:TA Tryz.prog 83 3:=⟨Tryz.isAgg83,Tryz.sizeOf83⟩
theorem Qze:TA Tryz.prog 86 4:=⟨Tryz.isAgg86,Tryz.sizeOf86⟩
theorem Q5e:TS Tryz.prog 149 4:=⟨86,Tryz.underlying149,Tryz.sizeOf86⟩
theorem Qso:FA Tryz.prog 86 0 0:=Qf3 (n:=0) Tryz.underlying86 z z Tryz.sizeOf3
theorem Qsy:FA Tryz.prog 86 1 1:=Qf3 (n:=0) Tryz.underlying86 z z Tryz.sizeOf3
theorem Qte:FA Tryz.prog 86 2 2:=Qf3 (n:=0) Tryz.underlying86 z z Tryz.sizeOf3
theorem Q8k:FA Tryz.prog 86 3 3:=Qf3 (n:=0) Tryz.underlying86 z z Tryz.sizeOf3
theorem Q01:FA Tryz.prog 278 0 0:=Qf3 (n:=0) Tryz.underlying278 z z Tryz.sizeOf63
theorem Q68:FA Tryz.prog 278 1 1:=Qf3 (n:=0) Tryz.underlying278 z z Tryz.sizeOf3
theorem Qyq:FA Tryz.prog 278 2 2:=Qf3 (n:=0) Tryz.underlying278 z z Tryz.sizeOf3
theorem Q3j:FA Tryz.prog 278 3 3:=Qf3 (n:=0) Tryz.underlying278 z z Tryz.sizeOf3
theorem Qxq:FA Tryz.prog 278 4 4:=Qf3 (n:=0) Tryz.underlying278 z z Tryz.sizeOf3
theorem Q5q:BT Tryz.prog 278 [.slice none 0 0,I 0,I 0,I 0,I 0] #[(0,1),(1,1),(2,1),(3,1),(4,1)]:=⟨Tryz.zeroValue278,_,Tryz.underlying278,fun w=>by simp [Tryz.sizeOf3,Tryz.sizeOf63]⟩
theorem Q5i:TA Tryz.prog 278 5:=⟨Tryz.isAgg278,Tryz.sizeOf278⟩
theorem Q3d:TE Tryz.prog 267 5 56 [.slice none 0 0,I 0,I 0,I 0,I 0]:=⟨278,Tryz.t278,Tryz.underlying267,Tryz.type278,⟨_,z,z⟩,z,z,z,by decide⟩
theorem Q0l:TS Tryz.prog 267 5:=⟨278,Tryz.underlying267,Tryz.sizeOf278⟩
theorem Q22:TE Tryz.prog 269 4 48 [.slice none 0 0,I 0,I 0,I 0]:=⟨276,Tryz.t276,Tryz.underlying269,Tryz.type276,⟨_,z,z⟩,z,z,z,by decide⟩
theorem Qxi:TS Tryz.prog 269 4:=⟨276,Tryz.underlying269,Tryz.sizeOf276⟩
theorem Q2w:FA Tryz.prog 276 1 1:=Qf3 (n:=0) Tryz.underlying276 z z Tryz.sizeOf3
theorem Qxv:FA Tryz.prog 276 3 3:=Qf3 (n:=0) Tryz.underlying276 z z Tryz.sizeOf3
theorem Q5h:BT Tryz.prog 276 [.slice none 0 0,I 0,I 0,I 0] #[(0,1),(1,1),(2,1),(3,1)]:=⟨Tryz.zeroValue276,_,Tryz.underlying276,fun w=>by simp [Tryz.sizeOf3,Tryz.sizeOf63]⟩
theorem Ja2:TA Tryz.prog 276 4:=⟨Tryz.isAgg276,Tryz.sizeOf276⟩
theorem Q3m:FA Tryz.prog 276 0 0:=Qf3 (n:=0) Tryz.underlying276 z z Tryz.sizeOf63
theorem Qxj:FA Tryz.prog 276 2 2:=Qf3 (n:=0) Tryz.underlying276 z z Tryz.sizeOf3
theorem Q25:TE Tryz.prog 271 3 40 [.slice none 0 0,I 0,I 0]:=⟨274,Tryz.t274,Tryz.underlying271,Tryz.type274,⟨_,z,z⟩,z,z,z,by decide⟩
theorem Q12:TS Tryz.prog 271 3:=⟨274,Tryz.underlying271,Tryz.sizeOf274⟩
theorem Q70:FA Tryz.prog 274 1 1:=Qf3 (n:=0) Tryz.underlying274 z z Tryz.sizeOf3
theorem Q7m:FA Tryz.prog 274 2 2:=Qf3 (n:=0) Tryz.underlying274 z z Tryz.sizeOf3
theorem Q5k:BT Tryz.prog 274 [.slice none 0 0,I 0,I 0] #[(0,1),(1,1),(2,1)]:=⟨Tryz.zeroValue274,_,Tryz.underlying274,fun w=>by simp [Tryz.sizeOf3,Tryz.sizeOf63]⟩
theorem Je4:TA Tryz.prog 274 3:=⟨Tryz.isAgg274,Tryz.sizeOf274⟩
theorem Q3n:FA Tryz.prog 274 0 0:=Qf3 (n:=0) Tryz.underlying274 z z Tryz.sizeOf63
theorem Q3t:TE Tryz.prog 56 4 32 [I 0,I 0,I 0,I 0]:=⟨89,Tryz.t89,Tryz.underlying56,Tryz.type89,⟨_,z,z⟩,z,z,z,by decide⟩
theorem Jcs:BT Tryz.prog 89 [I 0,I 0,I 0,I 0] #[(0,1),(1,1),(2,1),(3,1)]:=⟨Tryz.zeroValue89,_,Tryz.underlying89,fun w=>by simp [Tryz.sizeOf3]⟩
theorem Qxp:TS Tryz.prog 56 4:=⟨89,Tryz.underlying56,Tryz.sizeOf89⟩
theorem Qsj:FA Tryz.prog 89 0 0:=Qf3 (n:=0) Tryz.underlying89 z z Tryz.sizeOf3
theorem Jgq:BT Tryz.prog 58 [.slice none 0 0,.slice none 0 0] #[(0,1),(1,1)]:=⟨Tryz.zeroValue58,_,Tryz.underlying58,fun w=>by simp [Tryz.sizeOf55,Tryz.sizeOf56]⟩
theorem Qtm:TA Tryz.prog 58 2:=⟨Tryz.isAgg58,Tryz.sizeOf58⟩
theorem Q5b:TE Tryz.prog 149 4 32 [I 0,I 0,I 0,I 0]:=⟨86,Tryz.t86,Tryz.underlying149,Tryz.type86,⟨_,z,z⟩,z,z,z,by decide⟩
theorem Qce:FA Tryz.prog 58 0 0:=Qf3 (n:=0) Tryz.underlying58 z z Tryz.sizeOf55
theorem Qpl:T1 Tryz.prog 55:=⟨fun w=>by simp [isAgg,run_underlying Tryz.underlying55],Tryz.sizeOf55⟩
theorem Qsw:TS Tryz.prog 55 3:=⟨83,Tryz.underlying55,Tryz.sizeOf83⟩
theorem Qth:FA Tryz.prog 83 1 1:=Qf3 (n:=0) Tryz.underlying83 z z Tryz.sizeOf3
theorem Qz7:TA Tryz.prog 89 4:=⟨Tryz.isAgg89,Tryz.sizeOf89⟩
theorem Qf2:FA Tryz.prog 58 1 1:=Qf3 (n:=0) Tryz.underlying58 z z Tryz.sizeOf56
theorem Qu5:T1 Tryz.prog 56:=⟨fun w=>by simp [isAgg,run_underlying Tryz.underlying56],Tryz.sizeOf56⟩
theorem Qs0:FA Tryz.prog 89 1 1:=Qf3 (n:=0) Tryz.underlying89 z z Tryz.sizeOf3
theorem Qtg:FA Tryz.prog 89 3 3:=Qf3 (n:=0) Tryz.underlying89 z z Tryz.sizeOf3
theorem Q81:TA Tryz.prog 180 2:=⟨Tryz.isAgg180,Tryz.sizeOf180⟩
theorem Jdm:SEq Tryz.prog 180 Pair:=Jbk Tryz.underlying180 Tryz.stoodInHeld180 Tryz.eqGuardType180 Tryz.underlying3 z
theorem Qtv:FA Tryz.prog 89 2 2:=Qf3 (n:=0) Tryz.underlying89 z z Tryz.sizeOf3
theorem Jg0:T1 Tryz.prog 29:=⟨fun w=>by simp [isAgg,run_underlying Tryz.underlying29],Tryz.sizeOf29⟩
theorem Jgo:TE Tryz.prog 152 1 16 [.string ⟨#[]⟩]:=⟨9,Tryz.t9,Tryz.underlying152,Tryz.type9,⟨_,z,z⟩,z,z,z,by decide⟩
theorem Jgl:TS Tryz.prog 152 1:=⟨9,Tryz.underlying152,Tryz.sizeOf9⟩
theorem t19:T1 Tryz.prog 9:=⟨fun w=>by simp [isAgg,run_underlying Tryz.underlying9],Tryz.sizeOf9⟩
theorem Qah {w:World} {x:Request} {F0 F1 F2:List Nat} {v0 v1 v2:Value} (h0:rd w F0 [v0] x.fPairs) (h1:rd w F1 [v1] x.fTypes) (h2:rd w F2 [v2] x.fItems):rd w (F0 ++ (F1 ++ F2)) [I x.fWay,I x.fPallet.fW,I x.fPallet.fD,I x.fPallet.fH,I x.fPallet.fGram,I x.fClasses,v0,v1,I x.fMaster,v2] x:=⟨_,_,_,_,_,_,rfl,rfl,h0,h1,h2⟩
theorem Qhx {w:World} {x:Carton} {F0:List Nat} {v0:Value} (h0:rd w F0 [v0] x.fUnits):rd w F0 [I x.fType,I x.fGroup,v0] x:=⟨_,_,rfl,rfl,h0⟩
theorem Qit {w:World} {x:Plan} {F0 F1:List Nat} {v0 v1:Value} (h0:rd w F0 [v0] x.fCartons) (h1:rd w F1 [v1] x.fSpots):rd w (F0 ++ F1) [v0,v1] x:=⟨_,_,_,_,rfl,rfl,h0,h1⟩
theorem Jck {w:World} {x:Shelf} {F0:List Nat} {v0:Value} (h0:rd w F0 [v0] x.fList):rd w F0 [v0,I x.fW,I x.fD,I x.fH,I x.fGram] x:=⟨_,_,rfl,rfl,h0⟩
end Go.Proofs.YtkkfmjpbiimkbaaGreat
