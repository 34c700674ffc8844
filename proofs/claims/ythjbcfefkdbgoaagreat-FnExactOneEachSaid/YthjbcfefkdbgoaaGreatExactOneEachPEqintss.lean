/- Lists of lists of numbers in the laws: equality. -/
import Derived.Test.YthjbcfefkdbgoaaGreatExactOneEachW6
import Derived.Test.YthjbcfefkdbgoaaGreatM2
import Derived.Test.YthjbcfefkdbgoaaGreatExactOneEachPEqints
namespace Go.Proofs.YthjbcfefkdbgoaaGreat
open Go
theorem eqIntSS (fu : Nat) (l : List (List Int)) (h : l.length ≤ 1048576) (hm : ∀ x ∈ l, x.length ≤ 1048576) (hf : 1048577 ≤ fu) : d_laws_eqIntSS fu l l = some true := by
  unfold d_laws_eqIntSS
  rw [bif_false (by simp)]
  refine eqS_loop l (fun n i => d_laws_eqIntSS_L1 fu l l n i) h ?_ ?_ fu (by omega)
  · intro n i x hx hd
    have := hm x (List.mem_of_getElem? (ix_some hx).2.2)
    simp only [d_laws_eqIntSS_L1_s]
    unfold d_laws_eqIntSS_L1_B
    simp [hd, hx, eqIntS fu x this (by omega)]
  · intro n i hd
    simp only [d_laws_eqIntSS_L1_s]
    unfold d_laws_eqIntSS_L1_B
    simp only [hd, cond_false]
end Go.Proofs.YthjbcfefkdbgoaaGreat
