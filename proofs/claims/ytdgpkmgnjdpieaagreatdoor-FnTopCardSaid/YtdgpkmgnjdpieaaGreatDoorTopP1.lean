/- TopP: plain lemmas, .. -/
import Derived.Test.YtdgpkmgnjdpieaaGreatDoorTopD
import Derived.Test.YtdgpkmgnjdpieaaGreatDoorTopBP7
set_option linter.unusedSimpArgs false
set_option linter.unusedVariables false
namespace Go.Proofs.YtdgpkmgnjdpieaaGreatDoor
open Go
open Enc (rd ow)
open Arg (argv)
open Ret (retv)
open Wf (wf)
theorem pG (z:ByteArray):∀ (ls:List ByteArray) (A:Int) (r:Request) (i:Int),0≤i→(Uf z ls A r i).2=-1∨0≤(Uf z ls A r i).2
 | [],A,r,i,h=>by
  rw [Uf]
  split
  · exact .inr h
  split
  · exact .inl rfl
  · exact .inr h
 | l::ls,A,r,i,h=>by
  rw [Uf]
  cases mf A (Yq r l).1
  · exact .inr h
  · exact pG z ls _ _ (i+1) AC
theorem wC (s:ByteArray):(bp s).2=-1∨0≤(bp s).2:=by
 unfold bp
 split
 · exact .inr A1
 · exact pG _ _ _ _ _ A1
theorem tJ (s:ByteArray):(jb s).1.size≤240200:=by
 unfold jb
 cases Y7 s != 0
 · exact gB
 · show 0≤_; omega
theorem qA {b:List U8} (E:b.length≤1048576):Tot (Nx 2097153 b) λx=>x.1.size≤1048576∧x.2.size≤1048576:=by
 unfold Nx
 refine Tot.bind (kW E AC) λc L=>Tot.bind (bY L.re' _) λy J=>?_
 refine Tot.bif (λ_=>?_) λ_=>?_
 · refine Tot.bind (vn E) λs D=>?_
   rw [vN D,AB]
   have:=tJ s
   exact Tot.bind (uQ J.re' AC) λt _=>Tot.mk ⟨D,by simp only; omega⟩
 · refine Tot.bind (wz E AC) λx A=>?_
   obtain ⟨M,D⟩:=sR (r:=x.1) (fu:=2097153) AC A.1.1 A.1.2.1 A.1.2.2
   rw [M,AB,tB A.2.sp AC,AB]
   have:=gB (x:=x.2)
   exact Tot.mk ⟨by simp only; omega,by simp only; omega⟩
theorem nF (b:List U8) (_:wf b):∃ fu,Xl fu b=some true:=by
 refine ⟨2097153,?_⟩
 unfold Xl Sj Sy SH
 rw [xZ,AB]
 by_cases Q:(b.length:Int)>1048576
 · rw [AX (by simpa using Q)]
 rw [AM (by simpa using Q)]
 obtain ⟨⟨s,l⟩,Z,D,hl⟩:=qA (b:=b) AC
 simp only at D hl
 rw [Z]
 simp only [AB,zE D,vN D,rG D,vM D hl,yB D hl,li D,vD hl]
 rw [AM AD,AM AD]
 by_cases A:Y7 s=0
 · have N:jb s=(Z0 (WR (bp s).1).1,0):=by unfold jb; rw [A]; rfl
   have E:(bp s).2=-1∧B9 (bp s).1=0:=by
    unfold Y7 at A
    rcases wC s with h | h
    · rw [h] at A ⊢
      exact ⟨rfl,A⟩
    · rw [AX (by simpa using h)] at A
      exact absurd A A1
   have O:=vC E.2
   have U:XW (Z0 (WR (bp s).1).1)=((WR (bp s).1).1,true):=vz O.pok
   have Y:d0 (bp s).1 (WR (bp s).1).1=0:=by
    have:=ui.2 O
    unfold qp at this
    simpa using this
   have hV:iJ s (Z0 (WR (bp s).1).1)=(0,0):=by
    unfold iJ
    rw [A,U]
    show (0,d0 (bp s).1 (WR (bp s).1).1)=_
    rw [Y]
   have J:iJ s l=bif !(XW l).2 then (0,2) else (0,d0 (bp s).1 (XW l).1):=by
    unfold iJ
    rw [A]; rfl
   rw [N,A]
   simp only
   rw [AM A1,AM AD,AM AD,AM A1,vM D (Nat.le_trans gB AC),AB,hV,E.1]
   rw [AM A1,AM A1,AX A1,J]
   cases V:(XW l).2 with
   | false=>rfl
   | true =>
    rw [cond_true,wE (aK s) (kr l),AB]
    have L:qp (bp s).1 (XW l).1=(d0 (bp s).1 (XW l).1==0):=rfl
    rw [L,Bool.not_true,cond_false]
    cases T:(d0 (bp s).1 (XW l).1==0) with
    | false =>
     rw [cond_false]
     simp [T]
    | true =>
     rw [cond_true,tG (kr l) AC,AB,(u4 hl V).1]
     simp [T]
 · have M:(Y7 s != 0)=true:=bne_iff_ne.2 A
   have N:jb s=(eN,Y7 s):=by unfold jb; rw [M]; rfl
   have e:iJ s l=(Y7 s,1):=by unfold iJ; rw [M]; rfl
   rw [N,e]
   simp only
   rw [AM AD,AM AD,AM AD,AX M,AX (by rw [Xf]; exact decide_eq_true rfl),AX AD]
   rfl
end Go.Proofs.YtdgpkmgnjdpieaaGreatDoor
