/- TopP: plain lemmas, .. -/
import Derived.Test.YtdgpkmgnjdpieaaGreatDoorTopD
import Derived.Test.YtdgpkmgnjdpieaaGreatDoorTopBP7
set_option linter.unusedSimpArgs false
set_option linter.unusedVariables false
namespace Go.Proofs.YtdgpkmgnjdpieaaGreatDoor
open Go
open Enc (rd ow)
open Arg (argv)
open Ret (retv)
open Wf (wf)
theorem pD (z:ByteArray):∀ (ls:List ByteArray) (A:Int) (r:Request) (i:Int),0≤i→(T5 z ls A r i).2=-1∨0≤(T5 z ls A r i).2
 | [],A,r,i,h=>by
  rw [T5]
  split
  · exact .inr h
  split
  · exact .inl rfl
  · exact .inr h
 | l::ls,A,r,i,h=>by
  rw [T5]
  cases mf A (X6 r l).1
  · exact .inr h
  · exact pD z ls _ _ (i+1) AC
theorem xw (s:ByteArray):(bf s).2=-1∨0≤(bf s).2:=by
 unfold bf
 split
 · exact .inr A1
 · exact pD _ _ _ _ _ A1
theorem q8 (s:ByteArray):(ir s).1.size≤240200:=by
 unfold ir
 cases YW s != 0
 · exact fz
 · show 0≤_; omega
theorem qa {b:List U8} (D:b.length≤1048576):Tot (NA 2097153 b) λx=>x.1.size≤1048576∧x.2.size≤1048576:=by
 unfold NA
 refine Tot.bind (jU D AC) λc M=>Tot.bind (aR M.re' _) λy J=>?_
 refine Tot.bif (λ_=>?_) λ_=>?_
 · refine Tot.bind (vl D) λs E=>?_
   rw [vA E,AB]
   have:=q8 s
   exact Tot.bind (uM J.re' AC) λt _=>Tot.mk ⟨E,by simp only; omega⟩
 · refine Tot.bind (xv D AC) λx A=>?_
   obtain ⟨L,E⟩:=rU (r:=x.1) (fu:=2097153) AC A.1.1 A.1.2.1 A.1.2.2
   rw [L,AB,qV A.2.sp AC,AB]
   have:=fz (x:=x.2)
   exact Tot.mk ⟨by simp only; omega,by simp only; omega⟩
theorem nk (b:List U8) (_:wf b):∃ fu,Xf fu b=some true:=by
 refine ⟨2097153,?_⟩
 unfold Xf Sv Sj Sz
 rw [xY,AB]
 by_cases O:(b.length:Int)>1048576
 · rw [AX (by simpa using O)]
 rw [AM (by simpa using O)]
 obtain ⟨⟨s,l⟩,U,D,hl⟩:=qa (b:=b) AC
 simp only at D hl
 rw [U]
 simp only [AB,za D,vA D,q0 D,vC D hl,yR D hl,kK D,vY hl]
 rw [AM AD,AM AD]
 by_cases A:YW s=0
 · have J:ir s=(ZX (WP (bf s).1).1,0):=by unfold ir; rw [A]; rfl
   have E:(bf s).2=-1∧CA (bf s).1=0:=by
    unfold YW at A
    rcases xw s with h | h
    · rw [h] at A ⊢
      exact ⟨rfl,A⟩
    · rw [AX (by simpa using h)] at A
      exact absurd A A1
   have Q:=uL E.2
   have hP:XB (ZX (WP (bf s).1).1)=((WP (bf s).1).1,true):=um Q.pok
   have e:dv (bf s).1 (WP (bf s).1).1=0:=by
    have:=ud.2 Q
    unfold p2 at this
    simpa using this
   have Y:i7 s (ZX (WP (bf s).1).1)=(0,0):=by
    unfold i7
    rw [A,hP]
    show (0,dv (bf s).1 (WP (bf s).1).1)=_
    rw [e]
   have L:i7 s l=bif !(XB l).2 then (0,2) else (0,dv (bf s).1 (XB l).1):=by
    unfold i7
    rw [A]; rfl
   rw [J,A]
   simp only
   rw [AM A1,AM AD,AM AD,AM A1,vC D (Nat.le_trans fz AC),AB,Y,E.1]
   rw [AM A1,AM A1,AX A1,L]
   cases Z:(XB l).2 with
   | false=>rfl
   | true =>
    rw [cond_true,xq (aj s) (k7 l),AB]
    have M:p2 (bf s).1 (XB l).1=(dv (bf s).1 (XB l).1==0):=rfl
    rw [M,Bool.not_true,cond_false]
    cases T:(dv (bf s).1 (XB l).1==0) with
    | false =>
     rw [cond_false]
     simp [T]
    | true =>
     rw [cond_true,sE (k7 l) AC,AB,(uO hl Z).1]
     simp [T]
 · have N:(YW s != 0)=true:=bne_iff_ne.2 A
   have J:ir s=(ea,YW s):=by unfold ir; rw [N]; rfl
   have V:i7 s l=(YW s,1):=by unfold i7; rw [N]; rfl
   rw [J,V]
   simp only
   rw [AM AD,AM AD,AM AD,AX N,AX (by rw [WZ]; exact decide_eq_true rfl),AX AD]
   rfl
end Go.Proofs.YtdgpkmgnjdpieaaGreatDoor
