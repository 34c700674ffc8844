/- PackTextP: plain lem.. -/
import Derived.Test.YthkaklkinepfkaaGreatDoorPackTextD
import Derived.Test.YthkaklkinepfkaaGreatDoorPackTextBP5
set_option linter.unusedSimpArgs false
set_option linter.unusedVariables false
namespace Go.Proofs.YthkaklkinepfkaaGreatDoor
open Go
open Enc (rd ow)
open Arg (argv)
open Ret (retv)
open Wf (wf)
theorem Jgx (x:Plan):(Jdk (Q4k x)).2=true:=by
 cases hk:Q1k x with
 | false=>rw [Ji8 hk,Jg6]
 | true=>rw [Jf3 hk]
theorem Jkw {s p:ByteArray} {ps:List ByteArray} (h:Qiz 32 s=p::ps) (hp:p≠Qv0):(Q8m s).2.2=false:=by
 unfold Q8m
 rw [h]
 show (Jhp p (nms ps)).2.2=false
 unfold Jhp
 split
 · rfl
 · split
   · rfl
   · rw [if_neg (λh=>hp h.1)]
theorem Jdt (k:Int):(Jdk (Q7h++Qyq k++nl1)).2=false:=by
 have hc:(10:UInt8)∉(Qyq k).data.toList:=by
  unfold Qyq
  cases hb:inb k 0 6
  · exact λh=>by simp [emB] at h
  · have h:=Qcb.1 hb
    have:k=0∨k=1∨k=2∨k=3∨k=4∨k=5∨k=6:=by omega
    rcases this with rfl | rfl | rfl | rfl | rfl | rfl | rfl <;> decide
 have e:Qiz 10 (Q7h++Qyq k++nl1)=[Q7h++Qyq k,emB]:=by
  unfold Qiz
  have e1:(Q7h++Qyq k++nl1).data.toList=(Q7h++Qyq k).data.toList++10::[]:=by rw [Q5l]; rfl
  rw [e1,Qyd _ (λh=>by
   rw [Q5l] at h
   rcases List.mem_append.1 h with h | h
   · revert h; decide
   · exact hc h)]
  rfl
 have e2:Qiz 32 (Q7h++Qyq k)=ofL [33]::(pts 32 (Qyq k).data.toList).map ofL:=by
  unfold Qiz
  have:(Q7h++Qyq k).data.toList=[33]++32::(Qyq k).data.toList:=by rw [Q5l]; rfl
  rw [this,Qyd _ (by decide)]
  rfl
 unfold Jdk
 rw [e]
 split
 · show (match Jaz [Q7h++Qyq k] with | some l=>(plO l,true) | none=>(P0,false)).2=false
   rw [Jaz,if_neg (by rw [Jkw e2 (by decide)]; decide)]
 · rfl
theorem Qyw (b:List U8) (_:wf b):∃ fu,Qj5 fu b=some true:=by
 refine ⟨2097153,?_⟩
 unfold Qj5
 rw [Jma,Qaa]
 by_cases hb:(b.length:Int)>1048576
 · rw [Qao (by simpa using hb)]
 rw [Qaf (by simpa using hb)]
 obtain ⟨s,hy,hs⟩:=Jfu (b:=b) (by omega)
 unfold Qml
 rw [hy]
 simp only [Qaa,Jl5 hs,Jnb hs,Jji hs]
 rw [Qaf (by simp)]
 have hsz:(Jce s).size≤1048576:=by
  unfold Jce
  cases (Q1o s).2 != 0
  · rw [cond_false]
    unfold Q1o
    cases Q41 s != 0
    · exact Nat.le_trans Jct (by omega)
    · show 0≤_; omega
  · have:=Qyo (Q1o s).2
    rw [cond_true,ByteArray.size_append,ByteArray.size_append]
    show 2+_+1≤_
    omega
 rw [Jlt hsz,Qaa]
 by_cases h0:Q41 s=0
 · have e1:Q1o s=(Q4k (Q8d (rdM s).1).1,0):=by unfold Q1o; rw [h0]; rfl
   have e2:Jce s=Q4k (Q8d (rdM s).1).1:=by unfold Jce; rw [e1]; rfl
   rw [e2,e1,Jgx]
   simp
 · have e1:Q1o s=(emB,Q41 s):=by
     unfold Q1o
     rw [show (Q41 s != 0)=true from bne_iff_ne.2 h0]; rfl
   have e2:Jce s=Q7h++Qyq (Q41 s)++nl1:=by
    unfold Jce
    rw [e1]
    simp only
    rw [show (Q41 s != 0)=true from bne_iff_ne.2 h0]; rfl
   have hc:=Qyo (Q41 s)
   rw [e2,e1,Jdt]
   simp only
   rw [Qaf (by simpa using h0),Jko,Qaa]
   show (bif !false then Qab (Qs5 Q7h (Qyq (Q41 s))) (λx=>Qab (Qs5 x nl1) λy=>bif ((Q7h++Qyq (Q41 s)++nl1).toList==y.toList) then some (emB.toList==emB.toList) else some false) else some false)=_
   rw [Bool.not_false,cond_true,Qh9 (by show 2+_≤_; omega),Qaa,Qh9 (by rw [ByteArray.size_append]; show 2+_+1≤_; omega),Qaa]
   simp
end Go.Proofs.YthkaklkinepfkaaGreatDoor
