/- Lists of numbers in the laws: their size, copies, equality. -/
import Derived.Test.YthjbcfefkdbgoaaGreatExactFillW5
import Derived.Test.YthjbcfefkdbgoaaGreatM1
import Derived.Test.YthjbcfefkdbgoaaGreatExactFillPReq
namespace Go.Proofs.YthjbcfefkdbgoaaGreat
open Go
theorem szIntS (fu : Nat) (l : List Int) (left : Int) (hl : l.length ≤ maxLen) (h1 : 0 ≤ left) (h2 : left ≤ 1048576) : d_laws_szIntS fu l left = some (if left < l.length then -1 else left - l.length) := szS hl h1 h2
theorem toIntS (fu : Nat) (l : List Int) (h : l.length ≤ 1048576) (hf : l.length < fu) : d_laws_toIntS fu l = some l := by
  unfold d_laws_toIntS
  rw [mk_some (by omega), ob_some]
  refine toS_loop l (fun n out i => d_laws_toIntS_L1 fu l n out i) _ h ?_ ?_ fu hf
  · intro n out i x y hx hd hy
    simp only [d_laws_toIntS_L1_s]
    unfold d_laws_toIntS_L1_B
    simp only [hd, cond_true, hx, ob_some, hy]
  · intro n out i hd
    simp only [d_laws_toIntS_L1_s]
    unfold d_laws_toIntS_L1_B
    simp only [hd, cond_false]
theorem eqIntS (fu : Nat) (l : List Int) (h : l.length ≤ 1048576) (hf : l.length < fu) : d_laws_eqIntS fu l l = some true := by
  unfold d_laws_eqIntS
  rw [bif_false (by simp)]
  refine eqS_loop l (fun n i => d_laws_eqIntS_L1 fu l l n i) h ?_ ?_ fu hf
  · intro n i x hx hd
    simp only [d_laws_eqIntS_L1_s]
    unfold d_laws_eqIntS_L1_B
    simp [hd, hx]
  · intro n i hd
    simp only [d_laws_eqIntS_L1_s]
    unfold d_laws_eqIntS_L1_B
    simp only [hd, cond_false]
end Go.Proofs.YthjbcfefkdbgoaaGreat
