/- PlannedP: plain lemm.. -/
import Derived.Test.YtpcmapfabndggaaGreatDoorPlannedD
import Derived.Test.YtpcmapfabndggaaGreatDoorPlannedBP5
set_option linter.unusedSimpArgs false
set_option linter.unusedVariables false
namespace Go.Proofs.YtpcmapfabndggaaGreatDoor
open Go
open Enc (rd ow)
open Arg (argv)
open Ret (retv)
open Wf (wf)
theorem Q1r (b:List U8) (_:wf b):∃ fu,Qqp fu b=some true:=by
 refine ⟨2097153,?_⟩
 unfold Qqp
 rw [Jld,Qab]
 by_cases hb:(b.length:Int)>1048576
 · rw [Qbj (by simpa using hb)]
 rw [Qau (by simpa using hb)]
 obtain ⟨r,hy,hr⟩:=Jdg (fu:=2097153) (b:=b) (by omega) (by omega)
 have hs:=hr.sm (fu:=2097153) (by omega)
 unfold Qpa
 rw [hy,Qab,Qab,Jig hs,Qab,Jil hs,Qab]
 have hsp:=Jii r
 simp only [beq_self_eq_true,Bool.not_true,cond_false]
 by_cases hc:Qhg r=0
 rotate_left
 · have e:Q1f r=(⟨[],[]⟩,false):=by
     unfold Q1f
     rw [show (Qhg r==0)=false by simpa using hc]; rfl
   have hk:Jg4 r ⟨[],[]⟩=1:=by
    unfold Jg4
    rw [show (Qhg r==0)=false by simpa using hc]; rfl
   rw [e] at hsp ⊢
   have hi:=Jcb hs hsp
   rw [Qbj (by decide),Qbj (by decide)]
   show (Qac (Qol 2097153 r ⟨[],[]⟩) λx77=>some (x77==1))=_
   rw [hi,hk]; rfl
 · have e1:(Q1f r).2=true:=by
     unfold Q1f
     rw [show (Qhg r==0)=true by simpa using hc]; rfl
   have hI:=Jf0 hc
   have hf:Jhv r (Q1f r).1=true:=Jgg.2 hI
   have hl:Jjl r (Q1f r).1=[]:=by
    unfold Jjl
    refine List.filter_eq_nil_iff.2 λu hu=>?_
    have:=(Q7z.1 hI.once).mem_iff.2 hu
    simp [this]
   rw [e1]
   simp only [Bool.not_true,cond_false,Jhk hs hsp,hf,Qab,cond_true,Jgo hsp (fu:=2097153) (by omega),hI.pok,Jiu hs hsp,hl,Jhm hsp (fu:=2097153) (by omega),Jic hsp (fu:=2097153) (by omega)]
   rw [Qbj (by decide)]
   simp
end Go.Proofs.YtpcmapfabndggaaGreatDoor
