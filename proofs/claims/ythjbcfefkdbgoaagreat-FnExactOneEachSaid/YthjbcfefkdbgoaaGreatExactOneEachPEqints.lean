/- Lists of numbers in the laws: equality. -/
import Derived.Test.YthjbcfefkdbgoaaGreatExactOneEachW6
import Derived.Test.YthjbcfefkdbgoaaGreatM2
import Derived.Test.YthjbcfefkdbgoaaGreatExactOneEachPReq
namespace Go.Proofs.YthjbcfefkdbgoaaGreat
open Go
theorem eqIntS (fu : Nat) (l : List Int) (h : l.length ≤ 1048576) (hf : l.length < fu) : d_laws_eqIntS fu l l = some true := by
  unfold d_laws_eqIntS
  rw [bif_false (by simp)]
  refine eqS_loop l (fun n i => d_laws_eqIntS_L1 fu l l n i) h ?_ ?_ fu hf
  · intro n i x hx hd
    simp only [d_laws_eqIntS_L1_s]
    unfold d_laws_eqIntS_L1_B
    simp [hd, hx]
  · intro n i hd
    simp only [d_laws_eqIntS_L1_s]
    unfold d_laws_eqIntS_L1_B
    simp only [hd, cond_false]
end Go.Proofs.YthjbcfefkdbgoaaGreat
