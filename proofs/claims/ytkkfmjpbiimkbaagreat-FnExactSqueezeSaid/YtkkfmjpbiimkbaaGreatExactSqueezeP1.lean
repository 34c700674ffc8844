import Derived.Test.YtkkfmjpbiimkbaaGreatExactSqueezeD
import Derived.Test.YtkkfmjpbiimkbaaGreatExactSqueezeBP2
set_option linter.unusedSimpArgs false
set_option linter.unusedVariables false
/- The plain law of FnExactSqueeze. -/
namespace Go.Proofs.YtkkfmjpbiimkbaaGreat
open Go
open Enc (rd ow)
open Arg (argv)
open Ret (retv)
open Wf (wf)
theorem lens_leS:∀ (l:List (List Int)) (b:Nat),(∀ x ∈ l,x.length ≤ b) → lens l ≤ b * l.length
 | [],_,_=>by simp [lens]
 | x :: xs,b,h=>by
  have h1:=h x (by simp)
  have h2:=lens_leS xs b (fun y hy=>h y (by simp [hy]))
  simp only [lens,List.length_cons,Nat.mul_add]; omega
theorem lens_eqL:∀ (l:List (List Int)),lens l ≤ l.length + lensL l
 | []=>by simp [lens,lensL]
 | x :: xs=>by
  have h:=lens_eqL xs
  simp only [lens,lensL,List.length_cons]; omega
theorem fnExactSqueeze_pure (r:Request) (cs:List (List Int)) (hr:wf r) (hc:wf cs):∃ fu,d_laws_FnExactSqueeze fu r cs = some true:=by
 refine ⟨2097153,?_⟩
 unfold d_laws_FnExactSqueeze d_laws_FnExactSqueeze_J1
 rcases szReq 2097153 r hr with ⟨y,h1,h2⟩ | ⟨y,h1,h2,h3,hp,ht,hi⟩
 · rw [h1,ob_some,bif_true (by simp; omega)]
 rw [h1,ob_some,bif_false (by simp; omega)]
 rcases szIntSS 2097153 cs y hc h2 h3 (by omega) with ⟨z,h4,h5⟩ | ⟨z,h4,h5,h6,h7,h8,h9⟩
 · rw [h4,ob_some,bif_true (by simp; omega)]
 rw [h4,ob_some,bif_false (by simp; omega)]
 have hs:Sm 2097153 r:=⟨by omega,hp,ht,hi⟩
 obtain ⟨o1,o2⟩:=sqz_ok r cs
 have hm':∀ x ∈ sqzM r cs,x.length ≤ 1048576:=fun x hx=>by have:=o2 x hx; omega
 have hle:=lens_leS (sqzM r cs) 12 o2
 have hlc:lens cs ≤ 2097152:=by have:=lens_eqL cs; omega
 obtain ⟨k,x',hk,hk0,hk1⟩:=markReq hs 1 (by omega) (by omega)
 simp only [toReq hs,ob_some,toIntSS 2097153 cs h7 h8 (by omega),s_sqz hs cs h7 h8 h9,i_sqz hs cs h7 h8 h9,eqReq hs,eqIntSS 2097153 cs h7 h8 (by omega),eqIntSS 2097153 (sqzM r cs) (by omega) hm' (by omega),hk,markIntSS 2097153 cs k h7 h8 (by omega) hk0 (by omega) (by omega),markIntSS 2097153 (sqzM r cs) 1 (by omega) hm' (by omega) (by omega) (by omega) (by omega),heldIntSS 2097153 (sqzM r cs) 1 (by omega) hm' (by omega) (by omega) (by omega) (by omega)]
 have e1:decide (k + (lens cs:Int) < 0) = false:=by simp; omega
 have e2:decide ((1:Int) + (lens (sqzM r cs):Int) < 0) = false:=by simp; omega
 simp [e1,e2]
end Go.Proofs.YtkkfmjpbiimkbaaGreat
