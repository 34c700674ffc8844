/- Facts on the whole program of the seat, each once. Printed by shut.py. -/
import Derived.Test.YtcboeijpplllfaaGreatRows
import Derived.Test.YtcboeijpplllfaaGreatS14
import Derived.Test.YtcboeijpplllfaaGreatD1
set_option maxRecDepth 100000
namespace Go.Proofs.YtcboeijpplllfaaGreat
open Go
theorem k_ws : wordsSigns Tryz.prog.initOrder.toList = [([104, 97, 114, 110, 101, 115, 115].map Char.ofNat), ([97, 53, 102, 98, 97, 51, 100, 51, 97, 101, 54, 101, 55, 98, 102, 56, 102, 98, 52, 52, 57, 55, 55, 49, 53, 57, 100, 49, 52, 49, 99, 54, 102, 48, 97, 52, 100, 52, 97, 99, 53, 52, 54, 99, 49, 102, 98, 57, 48, 100, 97, 49, 98, 97, 56, 102, 99, 100, 51, 102, 50, 100, 55, 97].map Char.ofNat), ([99, 117, 116].map Char.ofNat), ([97, 116].map Char.ofNat), ([108, 111, 111, 112, 46, 101, 120, 97, 109, 112, 108, 101, 47, 103, 48, 48, 52, 56, 57, 47, 108, 97, 119, 115, 46, 70, 110, 69, 120, 97, 99, 116, 70, 105, 108, 108].map Char.ofNat), ([108, 111, 111, 112, 46, 101, 120, 97, 109, 112, 108, 101, 47, 103, 48, 48, 52, 56, 57, 47, 108, 97, 119, 115, 46, 70, 110, 69, 120, 97, 99, 116, 79, 110, 101, 69, 97, 99, 104].map Char.ofNat)] := make_of (l := ([104, 97, 114, 110, 101, 115, 115, 32, 97, 53, 102, 98, 97, 51, 100, 51, 97, 101, 54, 101, 55, 98, 102, 56, 102, 98, 52, 52, 57, 55, 55, 49, 53, 57, 100, 49, 52, 49, 99, 54, 102, 48, 97, 52, 100, 52, 97, 99, 53, 52, 54, 99, 49, 102, 98, 57, 48, 100, 97, 49, 98, 97, 56, 102, 99, 100, 51, 102, 50, 100, 55, 97, 32, 99, 117, 116, 32, 97, 116, 32, 108, 111, 111, 112, 46, 101, 120, 97, 109, 112, 108, 101, 47, 103, 48, 48, 52, 56, 57, 47, 108, 97, 119, 115, 46, 70, 110, 69, 120, 97, 99, 116, 70, 105, 108, 108, 32, 108, 111, 111, 112, 46, 101, 120, 97, 109, 112, 108, 101, 47, 103, 48, 48, 52, 56, 57, 47, 108, 97, 119, 115, 46, 70, 110, 69, 120, 97, 99, 116, 79, 110, 101, 69, 97, 99, 104].map Char.ofNat)) (by kernel_rfl) (by kernel_rfl)
theorem k_cut : (match behindMainWord [([104, 97, 114, 110, 101, 115, 115].map Char.ofNat), ([97, 53, 102, 98, 97, 51, 100, 51, 97, 101, 54, 101, 55, 98, 102, 56, 102, 98, 52, 52, 57, 55, 55, 49, 53, 57, 100, 49, 52, 49, 99, 54, 102, 48, 97, 52, 100, 52, 97, 99, 53, 52, 54, 99, 49, 102, 98, 57, 48, 100, 97, 49, 98, 97, 56, 102, 99, 100, 51, 102, 50, 100, 55, 97].map Char.ofNat), ([99, 117, 116].map Char.ofNat), ([97, 116].map Char.ofNat), ([108, 111, 111, 112, 46, 101, 120, 97, 109, 112, 108, 101, 47, 103, 48, 48, 52, 56, 57, 47, 108, 97, 119, 115, 46, 70, 110, 69, 120, 97, 99, 116, 70, 105, 108, 108].map Char.ofNat), ([108, 111, 111, 112, 46, 101, 120, 97, 109, 112, 108, 101, 47, 103, 48, 48, 52, 56, 57, 47, 108, 97, 119, 115, 46, 70, 110, 69, 120, 97, 99, 116, 79, 110, 101, 69, 97, 99, 104].map Char.ofNat)] with | c :: _ => c == "cut".toList | [] => false) = true := by kernel_rfl
theorem k_make : Tryz.prog.make = some .cut := mk_of k_ws k_cut
theorem k_lifts : Tryz.prog.liftsFinal = false := lf_of k_ws k_cut
theorem k_later : Tryz.prog.laysLater = false := by kernel_rfl
theorem k_refl : Tryz.prog.bearsReflect = false := by kernel_rfl
theorem k_rows : Tryz.prog.doorRows = [] := by kernel_rfl
theorem k_may : Tryz.prog.mayEnter = true := may_of k_ws k_cut k_later k_refl k_rows
theorem laidOut : laidOutB Tryz.prog = true := by kernel_rfl
theorem own : ownKnob Tryz.prog.godebug = none := by kernel_rfl
theorem k_maps : mapsRowed Tryz.prog = true := by kernel_rfl
theorem k_keys : Tryz.prog.plainKeys = true := by kernel_rfl
theorem k_stops : Tryz.prog.stopsHeard = true := by kernel_rfl
end Go.Proofs.YtcboeijpplllfaaGreat
