/- Facts on the whole program of the seat, each once. Printed by shut.py. -/
import Derived.Test.YtpcmapfabndggabGreatDoorRows
import Derived.Test.YtpcmapfabndggabGreatDoorS14
import Derived.Test.YtpcmapfabndggabGreatDoorD1
set_option maxRecDepth 100000
namespace Go.Proofs.YtpcmapfabndggabGreatDoor
open Go
theorem k_ws : wordsSigns Tryz.prog.initOrder.toList = [([104, 97, 114, 110, 101, 115, 115].map Char.ofNat), ([48, 99, 57, 50, 54, 54, 48, 54, 56, 101, 97, 51, 101, 100, 98, 53, 99, 101, 98, 54, 48, 57, 99, 50, 49, 51, 101, 48, 53, 49, 53, 55, 52, 50, 57, 102, 50, 97, 52, 49, 100, 57, 97, 98, 52, 52, 50, 48, 55, 55, 57, 53, 55, 55, 50, 54, 97, 101, 55, 53, 53, 99, 99, 97].map Char.ofNat), ([99, 117, 116].map Char.ofNat), ([97, 116].map Char.ofNat), ([108, 111, 111, 112, 46, 101, 120, 97, 109, 112, 108, 101, 47, 103, 48, 48, 52, 56, 57, 47, 108, 97, 119, 115, 46, 70, 110, 69, 120, 97, 99, 116, 80, 97, 99, 107, 84, 101, 120, 116].map Char.ofNat), ([108, 111, 111, 112, 46, 101, 120, 97, 109, 112, 108, 101, 47, 103, 48, 48, 52, 56, 57, 47, 108, 97, 119, 115, 46, 70, 110, 84, 101, 120, 116, 115].map Char.ofNat)] := make_of (l := ([104, 97, 114, 110, 101, 115, 115, 32, 48, 99, 57, 50, 54, 54, 48, 54, 56, 101, 97, 51, 101, 100, 98, 53, 99, 101, 98, 54, 48, 57, 99, 50, 49, 51, 101, 48, 53, 49, 53, 55, 52, 50, 57, 102, 50, 97, 52, 49, 100, 57, 97, 98, 52, 52, 50, 48, 55, 55, 57, 53, 55, 55, 50, 54, 97, 101, 55, 53, 53, 99, 99, 97, 32, 99, 117, 116, 32, 97, 116, 32, 108, 111, 111, 112, 46, 101, 120, 97, 109, 112, 108, 101, 47, 103, 48, 48, 52, 56, 57, 47, 108, 97, 119, 115, 46, 70, 110, 69, 120, 97, 99, 116, 80, 97, 99, 107, 84, 101, 120, 116, 32, 108, 111, 111, 112, 46, 101, 120, 97, 109, 112, 108, 101, 47, 103, 48, 48, 52, 56, 57, 47, 108, 97, 119, 115, 46, 70, 110, 84, 101, 120, 116, 115].map Char.ofNat)) (by kernel_rfl) (by kernel_rfl)
theorem k_cut : (match behindMainWord [([104, 97, 114, 110, 101, 115, 115].map Char.ofNat), ([48, 99, 57, 50, 54, 54, 48, 54, 56, 101, 97, 51, 101, 100, 98, 53, 99, 101, 98, 54, 48, 57, 99, 50, 49, 51, 101, 48, 53, 49, 53, 55, 52, 50, 57, 102, 50, 97, 52, 49, 100, 57, 97, 98, 52, 52, 50, 48, 55, 55, 57, 53, 55, 55, 50, 54, 97, 101, 55, 53, 53, 99, 99, 97].map Char.ofNat), ([99, 117, 116].map Char.ofNat), ([97, 116].map Char.ofNat), ([108, 111, 111, 112, 46, 101, 120, 97, 109, 112, 108, 101, 47, 103, 48, 48, 52, 56, 57, 47, 108, 97, 119, 115, 46, 70, 110, 69, 120, 97, 99, 116, 80, 97, 99, 107, 84, 101, 120, 116].map Char.ofNat), ([108, 111, 111, 112, 46, 101, 120, 97, 109, 112, 108, 101, 47, 103, 48, 48, 52, 56, 57, 47, 108, 97, 119, 115, 46, 70, 110, 84, 101, 120, 116, 115].map Char.ofNat)] with | c :: _ => c == "cut".toList | [] => false) = true := by kernel_rfl
theorem k_make : Tryz.prog.make = some .cut := mk_of k_ws k_cut
theorem k_lifts : Tryz.prog.liftsFinal = false := lf_of k_ws k_cut
theorem k_may : Tryz.prog.mayEnter = true := by kernel_rfl
theorem laidOut : laidOutB Tryz.prog = true := by kernel_rfl
theorem own : ownKnob Tryz.prog.godebug = none := by kernel_rfl
theorem k_maps : mapsRowed Tryz.prog = true := by kernel_rfl
theorem k_keys : Tryz.prog.plainKeys = true := by kernel_rfl
theorem k_stops : Tryz.prog.stopsHeard = true := by kernel_rfl
end Go.Proofs.YtpcmapfabndggabGreatDoor
