/- PlannedP: plain lemm.. -/
import Derived.Test.YtpcmapfabndggaaGreatDoorPlannedD
import Derived.Test.YtpcmapfabndggaaGreatDoorPlannedBP5
set_option linter.unusedSimpArgs false
set_option linter.unusedVariables false
namespace Go.Proofs.YtpcmapfabndggaaGreatDoor
open Go
open Enc (rd ow)
open Arg (argv)
open Ret (retv)
open Wf (wf)
theorem Q16 (b:List U8) (_:wf b):∃ fu,Qq0 fu b=some true:=by
 refine ⟨2097153,?_⟩
 unfold Qq0
 rw [Jjv,Qab]
 by_cases hb:(b.length:Int)>1048576
 · rw [Qbj (by simpa using hb)]
 rw [Qaw (by simpa using hb)]
 obtain ⟨r,hy,hr⟩:=Jc6 (fu:=2097153) (b:=b) (by omega) (by omega)
 have hs:=hr.sm (fu:=2097153) (by omega)
 unfold Qpc
 rw [hy,Qab,Qab,Jim hs,Qab,Ji9 hs,Qab]
 have hsp:=Jhn r
 simp only [beq_self_eq_true,Bool.not_true,cond_false]
 by_cases hc:Qhg r=0
 rotate_left
 · have e:Q1f r=(⟨[],[]⟩,false):=by
     unfold Q1f
     rw [show (Qhg r==0)=false by simpa using hc]; rfl
   have hk:Jg3 r ⟨[],[]⟩=1:=by
    unfold Jg3
    rw [show (Qhg r==0)=false by simpa using hc]; rfl
   rw [e] at hsp ⊢
   have hi:=Jax hs hsp
   rw [Qbj (by decide),Qbj (by decide)]
   show (Qac (Qoh 2097153 r ⟨[],[]⟩) λx77=>some (x77==1))=_
   rw [hi,hk]; rfl
 · have e1:(Q1f r).2=true:=by
     unfold Q1f
     rw [show (Qhg r==0)=true by simpa using hc]; rfl
   have hI:=Jgi hc
   have hf:Jiv r (Q1f r).1=true:=Jgv.2 hI
   have hl:Jji r (Q1f r).1=[]:=by
    unfold Jji
    refine List.filter_eq_nil_iff.2 λu hu=>?_
    have:=(Q7r.1 hI.once).mem_iff.2 hu
    simp [this]
   rw [e1]
   simp only [Bool.not_true,cond_false,Jic hs hsp,hf,Qab,cond_true,Jgy hsp (fu:=2097153) (by omega),hI.pok,Jjb hs hsp,hl,Jia hsp (fu:=2097153) (by omega),Jh8 hsp (fu:=2097153) (by omega)]
   rw [Qbj (by decide)]
   simp
end Go.Proofs.YtpcmapfabndggaaGreatDoor
