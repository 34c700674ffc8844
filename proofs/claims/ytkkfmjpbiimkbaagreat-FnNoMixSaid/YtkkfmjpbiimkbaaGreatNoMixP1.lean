import Derived.Test.YtkkfmjpbiimkbaaGreatNoMixD
import Derived.Test.YtkkfmjpbiimkbaaGreatNoMixBP2
set_option linter.unusedSimpArgs false
set_option linter.unusedVariables false
/- The plain law of FnNoMix: where the table is transitive nobody mixes groups. -/
namespace Go.Proofs.YtkkfmjpbiimkbaaGreat
open Go
open Enc (rd ow)
open Arg (argv)
open Ret (retv)
open Wf (wf)
theorem fnNoMix_pure (b:List U8) (_:wf b):∃ fu,d_laws_FnNoMix fu b = some true:=by
 refine ⟨2097153,?_⟩
 unfold d_laws_FnNoMix
 rw [s_big,ob_some]
 by_cases hb:(b.length:Int) > 1048576
 · rw [bif_true (by simpa using hb)]
 rw [bif_false (by simpa using hb)]
 obtain ⟨x,hx,hr,hc⟩:=dr_rival (fu:=2097153) (b:=b) (by omega) (by omega)
 have hs:=hr.sm (fu:=2097153) (by omega)
 obtain ⟨c1,c2,c3⟩:=hc.lens
 have hp:=prsM_len x.1
 unfold d_spec_DrawMixes d_laws_FnNoMix_J1
 rw [hx,ob_some,ob_some]
 simp only [i_mix hs x.2 c1 c2,s_mix hs x.2 c1 c2,i_rival hs x.2 c1 c2 c3,s_rival hs x.2 c1 c2 c3,i_prs hs,s_prs hs,ob_some,i_tra (fu:=2097153) hs.pairs (l:=prsM x.1) (by omega) (prsM_sorted x.1) (by omega),s_tra (fu:=2097153) hs.pairs (l:=prsM x.1) (by omega) (by omega)]
 cases hr:rivB x.1 x.2
 · simp
 · cases ht:traM x.1.fPairs (prsM x.1)
   · simp
   · rw [no_mix ht hr]; simp
end Go.Proofs.YtkkfmjpbiimkbaaGreat
