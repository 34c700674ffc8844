import Derived.Test.YtkkfmjpbiimkbaaGreatExactSpareD
import Derived.Test.YtkkfmjpbiimkbaaGreatExactSqueezeBP2
set_option linter.unusedSimpArgs false
set_option linter.unusedVariables false
/- Squeeze and Spare of spec and of impl. -/
namespace Go.Proofs.YtkkfmjpbiimkbaaGreat
open Go
open Enc (rd ow)
open Arg (argv)
open Ret (retv)
open Wf (wf)
theorem i_spa {fu:Nat} {r:Request} (h:Sm fu r) (cs:List (List Int)) (hl:cs.length ≤ 1048576) (hm:∀ x ∈ cs,x.length ≤ 1048576) (hs:lensL cs ≤ 1048576):d_impl_Spare fu r cs = some (spaM r cs):=by
 have:=(sqz_ok r cs).1
 unfold d_impl_Spare spaM
 rw [i_rival h cs hl hm hs,ob_some,i_sqz h cs hl hm hs,ob_some,w64_id (by omega) (by omega)]
 cases rivB r cs <;> rfl
theorem s_spa {fu:Nat} {r:Request} (h:Sm fu r) (cs:List (List Int)) (hl:cs.length ≤ 1048576) (hm:∀ x ∈ cs,x.length ≤ 1048576) (hs:lensL cs ≤ 1048576):d_spec_Spare fu r cs = some (spaM r cs):=by
 have:=(sqz_ok r cs).1
 unfold d_spec_Spare spaM
 rw [s_rival h cs hl hm hs,ob_some,s_sqz h cs hl hm hs,ob_some,w64_id (by omega) (by omega)]
 cases rivB r cs <;> rfl
end Go.Proofs.YtkkfmjpbiimkbaaGreat
/- The plain law of FnExactSpare. -/
namespace Go.Proofs.YtkkfmjpbiimkbaaGreat
open Go
open Enc (rd ow)
open Arg (argv)
open Ret (retv)
open Wf (wf)
theorem fnExactSpare_pure (r:Request) (cs:List (List Int)) (hr:wf r) (hc:wf cs):∃ fu,d_laws_FnExactSpare fu r cs = some true:=by
 refine ⟨2097153,?_⟩
 unfold d_laws_FnExactSpare
 rcases szReq 2097153 r hr with ⟨y,h1,h2⟩ | ⟨y,h1,h2,h3,hp,ht,hi⟩
 · rw [h1,ob_some,bif_true (by simp; omega)]
 rw [h1,ob_some,bif_false (by simp; omega)]
 rcases szIntSS 2097153 cs y hc h2 h3 (by omega) with ⟨z,h4,h5⟩ | ⟨z,h4,h5,h6,h7,h8,h9⟩
 · rw [h4,ob_some,bif_true (by simp; omega)]
 rw [h4,ob_some,bif_false (by simp; omega)]
 have hs:Sm 2097153 r:=⟨by omega,hp,ht,hi⟩
 simp only [toReq hs,ob_some,toIntSS 2097153 cs h7 h8 (by omega),s_spa hs cs h7 h8 h9,i_spa hs cs h7 h8 h9,eqReq hs,eqIntSS 2097153 cs h7 h8 (by omega)]
 simp
end Go.Proofs.YtkkfmjpbiimkbaaGreat
