import Derived.Test.YtpcmapfabndggaaGreatDroppedD
import Derived.Test.YtpcmapfabndggaaGreatDroppedBP5
set_option linter.unusedSimpArgs false
set_option linter.unusedVariables false
/- The plain law of FnDropped. -/
namespace Go.Proofs.YtpcmapfabndggaaGreat
open Go
open Enc (rd ow)
open Arg (argv)
open Ret (retv)
open Wf (wf)
theorem Jav (r:Request):∀ (n:Nat) (x:Plan),Qvp r (itM r n x) = itM r (n + 1) x
 | 0,_=>rfl
 | n + 1,x=>Jav r n (Qvp r x)
theorem Jeb {r:Request}:∀ (n:Nat) (x:Plan),Sp x → Sp (itM r n x)
 | 0,_,h=>h
 | n + 1,x,h=>Jeb n (Qvp r x) (Jar h)
theorem Q0a (b:List U8) (_:wf b):∃ fu,Qqv fu b = some true:=by
 refine ⟨2097153,?_⟩
 unfold Qqv
 rw [Jh7,Qab]
 by_cases hb:(b.length:Int) > 1048576
 · rw [Qcn (by simpa using hb)]
 rw [Qbb (by simpa using hb)]
 obtain ⟨y,hy,hr,hx⟩:=Q84 (fu:=2097153) (b:=b) (by omega) (by omega)
 obtain ⟨r,x⟩:=y
 have hr:SmR r:=hr
 have hx:SmP x:=hx
 have hs:=hr.sm (fu:=2097153) (by omega)
 have hp:=hx.sp
 have hd:=Jar (r:=r) hp
 unfold Qno
 rw [hy,Qab,Qab]
 simp only [Q88 hs hp,Jgn hs hp,Qab,Q8b (fu:=2097153) hd (by omega),Bool.not_true,cond_false,Jc8 hs hp]
 cases hf:Qw9 r x
 · have e1:Qvp r x = x:=by unfold Qvp; rw [hf]; rfl
   rw [e1,Bool.not_false,cond_true,Q8b (fu:=2097153) hp (by omega)]; rfl
 · rw [Bool.not_true,cond_false]
   obtain ⟨m1,m2⟩:=Jas hf
   have hl:=hp.spots
   have hl2:=m2.1
   have L1:Qd0 2097153 (r,x) (Qvp r x) 2097153 (Qvp r x).fQ (Qvp r x).fU 0 = some true:=by
    refine Q9w (x.fU.length:Int) (λn (s:Plan) i=>Qd0 2097153 (r,x) (Qvp r x) n s.fQ s.fU i) (λ_ _=>some true) (λxs s=>xs.length ≤ x.fU.length ∧ s = itM r (x.fU.length - xs.length) (Qvp r x)) (by omega) ?_ ?_ x.fU.length 2097153 (Qvp r x) 0 (by omega) (by omega) (by omega) ⟨by rw [Qen]; omega,by rw [Qen,Nat.sub_self]; rfl⟩
    · intro n s i xs h0 h1 hd2 hI ih
      obtain ⟨i1,i2⟩:=hI
      simp only [List.length_cons] at i1 i2
      have hsp:Sp s:=by rw [i2]; exact Jeb _ _ hd
      simp only [Qd0.eq_2]
      unfold Qi4
      rw [hd2,cond_true]
      show Qac (Qgv 2097153 r s) _ = _
      rw [Q88 hs hsp,Qab]
      refine ih (Qvp r s) ⟨by omega,?_⟩
      rw [i2,Jav,show x.fU.length - (xs.length + 1) + 1 = x.fU.length - xs.length by omega]
    · intro n s i hd2 hI
      obtain ⟨i1,i2⟩:=hI
      simp only [List.length_nil,Nat.sub_zero] at i2
      have hsp:Sp s:=by rw [i2]; exact Jeb _ _ hd
      have hfs:Qw9 r s = true:=by rw [i2]; exact (Jdr _ _ m1).1
      have hend:Qvp r s = s:=by
       have:=Jhf m1
       rw [hl2] at this
       rw [i2]; exact this
      simp only [Qd0.eq_2]
      unfold Qi4
      rw [hd2,cond_false]
      simp only [Q8y hs hd,m1,Qab,cond_true]
      show Qac (Qg4 2097153 r s) (λx305=>bif x305 then Qac (Qgv 2097153 r s) λx310=>Qac (Qgw 2097153 x310 s) λx326=>some x326 else some false) = _
      rw [Q8y hs hsp,hfs,Qab,cond_true,Q88 hs hsp,Qab,hend,Q8b (fu:=2097153) hsp (by omega),Qab]
   refine lpN (x.fU.length:Int) (λn (_:Unit) i=>Qd2 2097153 (r,x) (Qvp r x) n i) (λ_ _=>some true) (by omega) ?_ ?_ x.fU.length 2097153 () 0 (by omega) (by omega) (by omega)
   · intro n _ i xs h0 h1 hd2 ih
     have j1:i.toNat < (Qvp r x).fU.length:=by omega
     have j2:i.toNat < x.fU.length:=by omega
     have e1:ix (Qvp r x).fU i = some ((Qvp r x).fU[i.toNat]'j1):=by
      have:=Qxq j1
      rwa [show ((i.toNat:Nat):Int) = i by omega] at this
     have e2:ix x.fU i = some (x.fU[i.toNat]'j2):=by
      have:=Qxq j2
      rwa [show ((i.toNat:Nat):Int) = i by omega] at this
     obtain ⟨f1,f2,f3,f4⟩:=m2.2 i.toNat _ _ (List.getElem?_eq_getElem j2) (List.getElem?_eq_getElem j1)
     simp only [Qd2.eq_2]
     unfold Qi5 Qle
     rw [hd2,cond_true]
     simp only [e1,e2,Qab]
     rw [Qbb (by simp; omega),Qbb (by simp [f2]),Qbb (by simp [f1])]
     exact ih ()
   · intro n _ i hd2
     simp only [Qd2.eq_2]
     unfold Qi5
     rw [hd2,cond_false]
     exact L1
end Go.Proofs.YtpcmapfabndggaaGreat
