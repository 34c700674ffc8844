/- PackTextP: plain lem.. -/
import Derived.Test.YtndfoffokpdjeaaGreatDoorPackTextD
import Derived.Test.YtndfoffokpdjeaaGreatDoorPackTextBP5
set_option linter.unusedSimpArgs false
set_option linter.unusedVariables false
namespace Go.Proofs.YtndfoffokpdjeaaGreatDoor
open Go
open Enc (rd ow)
open Arg (argv)
open Ret (retv)
open Wf (wf)
theorem Jfp (x:Plan):(Jdd (Q39 x)).2=true:=by
 cases hk:Q1x x with
 | false=>rw [Jjv hk,Jfw]
 | true=>rw [Jhh hk]
theorem Jim {s p:ByteArray} {ps:List ByteArray} (h:Qix 32 s=p::ps) (hp:p≠Qvz):(Q8k s).2.2=false:=by
 unfold Q8k
 rw [h]
 show (Jh2 p (nms ps)).2.2=false
 unfold Jh2
 split
 · rfl
 · split
   · rfl
   · rw [if_neg (λh=>hp h.1)]
theorem Jcy (k:Int):(Jdd (Q7a++Qyq k++nl1)).2=false:=by
 have hc:(10:UInt8)∉(Qyq k).data.toList:=by
  unfold Qyq
  cases hb:inb k 0 6
  · exact λh=>by simp [emB] at h
  · have h:=Qcb.1 hb
    have:k=0∨k=1∨k=2∨k=3∨k=4∨k=5∨k=6:=by omega
    rcases this with rfl | rfl | rfl | rfl | rfl | rfl | rfl <;> decide
 have e:Qix 10 (Q7a++Qyq k++nl1)=[Q7a++Qyq k,emB]:=by
  unfold Qix
  have e1:(Q7a++Qyq k++nl1).data.toList=(Q7a++Qyq k).data.toList++10::[]:=by rw [Q5b]; rfl
  rw [e1,Qyi _ (λh=>by
   rw [Q5b] at h
   rcases List.mem_append.1 h with h | h
   · revert h; decide
   · exact hc h)]
  rfl
 have e2:Qix 32 (Q7a++Qyq k)=ofL [33]::(pts 32 (Qyq k).data.toList).map ofL:=by
  unfold Qix
  have:(Q7a++Qyq k).data.toList=[33]++32::(Qyq k).data.toList:=by rw [Q5b]; rfl
  rw [this,Qyi _ (by decide)]
  rfl
 unfold Jdd
 rw [e]
 split
 · show (match Q91 [Q7a++Qyq k] with | some l=>(plO l,true) | none=>(P0,false)).2=false
   rw [Q91,if_neg (by rw [Jim e2 (by decide)]; decide)]
 · rfl
theorem Qzr (b:List U8) (_:wf b):∃ fu,Qj3 fu b=some true:=by
 refine ⟨2097153,?_⟩
 unfold Qj3
 rw [Jmq,Qaa]
 by_cases hb:(b.length:Int)>1048576
 · rw [Qao (by simpa using hb)]
 rw [Qaf (by simpa using hb)]
 obtain ⟨s,hy,hs⟩:=Jf5 (b:=b) (by omega)
 unfold Qm4
 rw [hy]
 simp only [Qaa,Jmt hs,Jnk hs,Jjh hs]
 rw [Qaf (by simp)]
 have hsz:(Jb7 s).size≤1048576:=by
  unfold Jb7
  cases (Q1q s).2 != 0
  · rw [cond_false]
    unfold Q1q
    cases Q4r s != 0
    · exact Nat.le_trans Jdg (by omega)
    · show 0≤_; omega
  · have:=Qyh (Q1q s).2
    rw [cond_true,ByteArray.size_append,ByteArray.size_append]
    show 2+_+1≤_
    omega
 rw [Jmp hsz,Qaa]
 by_cases h0:Q4r s=0
 · have e1:Q1q s=(Q39 (Q75 (rdM s).1).1,0):=by unfold Q1q; rw [h0]; rfl
   have e2:Jb7 s=Q39 (Q75 (rdM s).1).1:=by unfold Jb7; rw [e1]; rfl
   rw [e2,e1,Jfp]
   simp
 · have e1:Q1q s=(emB,Q4r s):=by
     unfold Q1q
     rw [show (Q4r s != 0)=true from bne_iff_ne.2 h0]; rfl
   have e2:Jb7 s=Q7a++Qyq (Q4r s)++nl1:=by
    unfold Jb7
    rw [e1]
    simp only
    rw [show (Q4r s != 0)=true from bne_iff_ne.2 h0]; rfl
   have hc:=Qyh (Q4r s)
   rw [e2,e1,Jcy]
   simp only
   rw [Qaf (by simpa using h0),Jjg,Qaa]
   show (bif !false then Qab (Qs5 Q7a (Qyq (Q4r s))) (λx=>Qab (Qs5 x nl1) λy=>bif ((Q7a++Qyq (Q4r s)++nl1).toList==y.toList) then some (emB.toList==emB.toList) else some false) else some false)=_
   rw [Bool.not_false,cond_true,Qh8 (by show 2+_≤_; omega),Qaa,Qh8 (by rw [ByteArray.size_append]; show 2+_+1≤_; omega),Qaa]
   simp
end Go.Proofs.YtndfoffokpdjeaaGreatDoor
