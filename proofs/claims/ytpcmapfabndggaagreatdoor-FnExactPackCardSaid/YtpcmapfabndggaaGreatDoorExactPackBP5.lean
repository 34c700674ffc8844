/- ExactPackBP: plain l.. -/
import Derived.Test.YtpcmapfabndggaaGreatDoorExactPackBP4
set_option linter.unusedSimpArgs false
set_option linter.unusedVariables false
namespace Go.Proofs.YtpcmapfabndggaaGreatDoor
open Go
open Enc (rd ow)
open Arg (argv)
open Ret (retv)
open Wf (wf)
theorem Q6z (z:ByteArray):∀ (ls:List ByteArray) (last:Int) (r:Request) (i:Int) (n:Nat),r.fR.length≤n∧r.fG.length≤n∧r.fV.length≤n→(Qw0 z ls last r i).1.fR.length≤n+ls.length∧(Qw0 z ls last r i).1.fG.length≤n+ls.length∧(Qw0 z ls last r i).1.fV.length≤n+ls.length
 | [],last,r,i,n,h=>by
  rw [Qw0]
  split
  · simp [R0]
  split
  · simpa using h
  · simp [R0]
 | l::ls,last,r,i,n,h=>by
  rw [Qw0]
  cases mf last (ptl r l).1
  · simp [R0]
  · have:=Q65 r l
    have:=Q6z z ls (ptl r l).1 (ptl r l).2 (i+1) (n+1) (by omega)
    simp only [cond_true,List.length_cons]
    omega
theorem Q34 (s:ByteArray):Sm 2097153 (rdM s).1:=by
 unfold rdM
 split
 · exact ⟨by omega,by simp [R0],by simp [R0],by simp [R0]⟩
 · rename_i h
   have:=Q6z ((Qsb 10 s).getLastD emB) (Qsb 10 s).dropLast (-1) R0 0 0 (by simp [R0])
   have h2:(Qsb 10 s).dropLast.length≤61:=by rw [List.length_dropLast]; omega
   exact ⟨by omega,by omega,by omega,by omega⟩
def Jau (s:ByteArray):Int:=bif decide ((rdM s).2≥0) then 1 else Qht (rdM s).1
theorem Jhq {s:ByteArray} (hs:s.size≤1048576):Qou 2097153 s=some (Jau s):=by
 unfold Qou Jau
 rw [Ja3 hs,Qab]
 cases decide ((rdM s).2≥0)
 · rw [cond_false,cond_false,Jdx (Q34 s),Qab]
 · rfl
theorem Jhf {s:ByteArray} (hs:s.size≤1048576):Qo1 2097153 s=some (Jau s):=by
 unfold Qo1 Jau
 rw [Jan hs,Qab]
 cases decide ((rdM s).2≥0)
 · rw [cond_false,cond_false,Q0p (Q34 s),Qab]
 · rfl
def Jfw (s:ByteArray):ByteArray×Int:=bif Jau s != 0 then (emB,Jau s) else (Jdu (Q6q (rdM s).1).1,0)
theorem Jhe {s:ByteArray} (hs:s.size≤1048576):Qr4 2097153 s=some (Jfw s):=by
 unfold Qr4 Jfw
 rw [Jhq hs,Qab]
 cases Jau s != 0
 · rw [cond_false,cond_false,Ja3 hs,Qab,Jfu (Q34 s),Qab,Jec (Jaq _) (by omega),Qab]
 · rfl
theorem Jgn {s:ByteArray} (hs:s.size≤1048576):Qr0 2097153 s=some (Jfw s):=by
 unfold Qr0 Jfw
 rw [Jhf hs,Qab]
 cases Jau s != 0
 · rw [cond_false,cond_false,Jan hs,Qab,Jd9 (Q34 s),Qab,Jfa (Jaq _) (by omega),Qab]
 · rfl
end Go.Proofs.YtpcmapfabndggaaGreatDoor
