/- ExactPackTextBP: pla.. -/
import Derived.Test.YtpcmapfabndggabGreatDoorExactPackTextBP4
set_option linter.unusedSimpArgs false
set_option linter.unusedVariables false
namespace Go.Proofs.YtpcmapfabndggabGreatDoor
open Go
open Enc (rd ow)
open Arg (argv)
open Ret (retv)
open Wf (wf)
theorem Q8h (z:ByteArray):∀ (ls:List ByteArray) (last:Int) (r:Request) (i:Int) (n:Nat),r.fR.length≤n∧r.fG.length≤n∧r.fV.length≤n→(Qwv z ls last r i).1.fR.length≤n+ls.length∧(Qwv z ls last r i).1.fG.length≤n+ls.length∧(Qwv z ls last r i).1.fV.length≤n+ls.length
 | [],last,r,i,n,h=>by
  rw [Qwv]
  split
  · simp [R0]
  split
  · simpa using h
  · simp [R0]
 | l::ls,last,r,i,n,h=>by
  rw [Qwv]
  cases mf last (ptl r l).1
  · simp [R0]
  · have:=Q7d r l
    have:=Q8h z ls (ptl r l).1 (ptl r l).2 (i+1) (n+1) (by omega)
    simp only [cond_true,List.length_cons]
    omega
theorem Q5b (s:ByteArray):Sm 2097153 (rdM s).1:=by
 unfold rdM
 split
 · exact ⟨by omega,by simp [R0],by simp [R0],by simp [R0]⟩
 · rename_i h
   have:=Q8h ((Qsi 10 s).getLastD emB) (Qsi 10 s).dropLast (-1) R0 0 0 (by simp [R0])
   have h2:(Qsi 10 s).dropLast.length≤61:=by rw [List.length_dropLast]; omega
   exact ⟨by omega,by omega,by omega,by omega⟩
def Jay (s:ByteArray):Int:=bif decide ((rdM s).2≥0) then 1 else Qhu (rdM s).1
theorem Jhr {s:ByteArray} (hs:s.size≤1048576):Qov 2097153 s=some (Jay s):=by
 unfold Qov Jay
 rw [Jbm hs,Qab]
 cases decide ((rdM s).2≥0)
 · rw [cond_false,cond_false,Jey (Q5b s),Qab]
 · rfl
theorem Jg7 {s:ByteArray} (hs:s.size≤1048576):Qo5 2097153 s=some (Jay s):=by
 unfold Qo5 Jay
 rw [Ja3 hs,Qab]
 cases decide ((rdM s).2≥0)
 · rw [cond_false,cond_false,Q16 (Q5b s),Qab]
 · rfl
def Q52 (s:ByteArray):ByteArray×Int:=bif Jay s != 0 then (emB,Jay s) else (Jff (Q7c (rdM s).1).1,0)
theorem Jia {s:ByteArray} (hs:s.size≤1048576):Qr9 2097153 s=some (Q52 s):=by
 unfold Qr9 Q52
 rw [Jhr hs,Qab]
 cases Jay s != 0
 · rw [cond_false,cond_false,Jbm hs,Qab,Jfs (Q5b s),Qab,Je5 (Ja5 _) (by omega),Qab]
 · rfl
theorem Jhv {s:ByteArray} (hs:s.size≤1048576):Qr1 2097153 s=some (Q52 s):=by
 unfold Qr1 Q52
 rw [Jg7 hs,Qab]
 cases Jay s != 0
 · rw [cond_false,cond_false,Ja3 hs,Qab,Jeq (Q5b s),Qab,Jd9 (Ja5 _) (by omega),Qab]
 · rfl
def Jic:List ByteArray:=[⟨#[111,107]⟩,⟨#[116,101,120,116]⟩,⟨#[98,111,117,110,100,115]⟩,⟨#[110,97,109,101,115]⟩,⟨#[116,97,98,108,101]⟩,⟨#[117,110,105,116]⟩,⟨#[112,97,108,108,101,116]⟩]
def Ja7 (k:Int):ByteArray:=bif inb k 0 6 then (ix Jic k).getD emB else emB
theorem Jeo (fu:Nat) (k:Int):Qlq fu k=some (Ja7 k):=by
 unfold Qlq Ja7
 rw [Q0h,Qab]
 show (bif !inb k 0 6 then _ else Qac (ix Jic k) _)=_
 cases hb:inb k 0 6
 · rfl
 · have h:=Qdc.1 hb
   rw [Bool.not_true,cond_false,cond_true]
   obtain ⟨u,rfl⟩:∃ u:Nat,k=u:=⟨k.toNat,by omega⟩
   rw [Qy1 (l:=Jic) (by show u<7; omega)]
   rfl
theorem Jgl (fu:Nat) (k:Int):Qpg fu k=some (Ja7 k):=Jeo fu k
theorem Q5h (k:Int):(Ja7 k).size≤6:=by
 unfold Ja7
 cases hb:inb k 0 6
 · show (0:Nat)≤6; omega
 · have h:=Qdc.1 hb
   have:k=0∨k=1∨k=2∨k=3∨k=4∨k=5∨k=6:=by omega
   rcases this with rfl | rfl | rfl | rfl | rfl | rfl | rfl <;> decide
def Jhl:ByteArray:=⟨#[33,32]⟩
def Jf9 (s:ByteArray):ByteArray:=bif (Q52 s).2 != 0 then Jhl++Ja7 (Q52 s).2++nl1 else (Q52 s).1
theorem Jhy {s:ByteArray} (hs:s.size≤1048576):Qm9 2097153 s=some (Jf9 s):=by
 unfold Qm9 Jf9
 rw [Jhv hs,Qab]
 cases (Q52 s).2 != 0
 · rfl
 · have h:=Q5h (Q52 s).2
   rw [cond_true,cond_true,Jeo,Qab]
   show Qac (Qu4 Jhl (Ja7 (Q52 s).2)) (λx=>Qac (Qu4 x nl1) λy=>some y)=_
   rw [Qqx (by show 2+_≤_; omega),Qab,Qqx (by rw [ByteArray.size_append]; show 2+_+1≤_; omega),Qab]
theorem Jh8 {s:ByteArray} (hs:s.size≤1048576):Qna 2097153 s=some (Jf9 s):=by
 unfold Qna Jf9 Qrd
 rw [Jia hs,Qab]
 cases (Q52 s).2 != 0
 · rfl
 · have h:=Q5h (Q52 s).2
   rw [cond_true,cond_true,Jgl,Qab]
   show Qac (Qac (Qu4 Jhl (Ja7 (Q52 s).2)) λx=>some x) (λx=>Qac (Qu4 x nl1) λy=>some y)=_
   rw [Qqx (by show 2+_≤_; omega),Qab,Qab,Qqx (by rw [ByteArray.size_append]; show 2+_+1≤_; omega),Qab]
end Go.Proofs.YtpcmapfabndggabGreatDoor
