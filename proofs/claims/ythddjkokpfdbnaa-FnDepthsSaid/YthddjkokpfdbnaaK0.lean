/- Facts on the whole program of the seat, each once. Printed by shut.py. -/
import Derived.Test.YthddjkokpfdbnaaRows
import Derived.Test.YthddjkokpfdbnaaS14
import Derived.Test.YthddjkokpfdbnaaD1
set_option maxRecDepth 100000
namespace Go.Proofs.Ythddjkokpfdbnaa
open Go
theorem k_ws : wordsSigns Try.prog.initOrder.toList = [([104, 97, 114, 110, 101, 115, 115].map Char.ofNat), ([52, 51, 54, 101, 55, 55, 54, 48, 50, 52, 54, 55, 99, 54, 100, 56, 102, 98, 98, 49, 100, 54, 102, 57, 51, 53, 50, 99, 56, 98, 57, 55, 52, 102, 53, 98, 56, 100, 100, 54, 100, 56, 97, 55, 55, 101, 52, 99, 55, 101, 54, 49, 102, 57, 101, 101, 102, 48, 53, 97, 56, 99, 102, 51].map Char.ofNat), ([99, 117, 116].map Char.ofNat), ([97, 116].map Char.ofNat), ([108, 111, 111, 112, 46, 101, 120, 97, 109, 112, 108, 101, 47, 103, 48, 48, 52, 56, 57, 47, 108, 97, 119, 115, 46, 70, 110, 68, 101, 112, 116, 104, 115].map Char.ofNat)] := make_of (l := ([104, 97, 114, 110, 101, 115, 115, 32, 52, 51, 54, 101, 55, 55, 54, 48, 50, 52, 54, 55, 99, 54, 100, 56, 102, 98, 98, 49, 100, 54, 102, 57, 51, 53, 50, 99, 56, 98, 57, 55, 52, 102, 53, 98, 56, 100, 100, 54, 100, 56, 97, 55, 55, 101, 52, 99, 55, 101, 54, 49, 102, 57, 101, 101, 102, 48, 53, 97, 56, 99, 102, 51, 32, 99, 117, 116, 32, 97, 116, 32, 108, 111, 111, 112, 46, 101, 120, 97, 109, 112, 108, 101, 47, 103, 48, 48, 52, 56, 57, 47, 108, 97, 119, 115, 46, 70, 110, 68, 101, 112, 116, 104, 115].map Char.ofNat)) (by kernel_rfl) (by kernel_rfl)
theorem k_cut : (match behindMainWord [([104, 97, 114, 110, 101, 115, 115].map Char.ofNat), ([52, 51, 54, 101, 55, 55, 54, 48, 50, 52, 54, 55, 99, 54, 100, 56, 102, 98, 98, 49, 100, 54, 102, 57, 51, 53, 50, 99, 56, 98, 57, 55, 52, 102, 53, 98, 56, 100, 100, 54, 100, 56, 97, 55, 55, 101, 52, 99, 55, 101, 54, 49, 102, 57, 101, 101, 102, 48, 53, 97, 56, 99, 102, 51].map Char.ofNat), ([99, 117, 116].map Char.ofNat), ([97, 116].map Char.ofNat), ([108, 111, 111, 112, 46, 101, 120, 97, 109, 112, 108, 101, 47, 103, 48, 48, 52, 56, 57, 47, 108, 97, 119, 115, 46, 70, 110, 68, 101, 112, 116, 104, 115].map Char.ofNat)] with | c :: _ => c == "cut".toList | [] => false) = true := by kernel_rfl
theorem k_make : Try.prog.make = some .cut := mk_of k_ws k_cut
theorem k_lifts : Try.prog.liftsFinal = false := lf_of k_ws k_cut
theorem k_later : Try.prog.laysLater = false := by kernel_rfl
theorem k_refl : Try.prog.bearsReflect = false := by kernel_rfl
theorem k_rows : Try.prog.doorRows = [] := by kernel_rfl
theorem k_may : Try.prog.mayEnter = true := may_of k_ws k_cut k_later k_refl k_rows
theorem laidOut : laidOutB Try.prog = true := by kernel_rfl
theorem own : ownKnob Try.prog.godebug = none := by kernel_rfl
theorem k_maps : mapsRowed Try.prog = true := by kernel_rfl
theorem k_keys : Try.prog.plainKeys = true := by kernel_rfl
theorem k_stops : Try.prog.stopsHeard = true := by kernel_rfl
end Go.Proofs.Ythddjkokpfdbnaa
