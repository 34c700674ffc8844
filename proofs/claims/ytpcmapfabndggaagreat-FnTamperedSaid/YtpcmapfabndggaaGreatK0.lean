/- Facts on the whole p.. -/
import Derived.Test.YtpcmapfabndggaaGreatRows
import Derived.Test.YtpcmapfabndggaaGreatS14
import Derived.Test.YtpcmapfabndggaaGreatD1
set_option maxRecDepth 100000
namespace Go.Proofs.YtpcmapfabndggaaGreat
open Go
theorem Ji4 : wordsSigns Tryz.prog.initOrder.toList=[([104, 97, 114, 110, 101, 115, 115].map Char.ofNat), ([57, 49, 102, 52, 102, 52, 52, 100, 53, 57, 55, 102, 55, 53, 51, 100, 49, 56, 52, 102, 54, 57, 57, 97, 53, 52, 102, 56, 48, 50, 100, 48, 100, 53, 102, 54, 99, 102, 99, 57, 57, 100, 55, 101, 99, 100, 57, 54, 48, 100, 101, 54, 102, 101, 56, 55, 55, 101, 50, 98, 99, 52, 97, 97].map Char.ofNat), ([99, 117, 116].map Char.ofNat), ([97, 116].map Char.ofNat), ([108, 111, 111, 112, 46, 101, 120, 97, 109, 112, 108, 101, 47, 103, 48, 48, 52, 56, 57, 47, 108, 97, 119, 115, 46, 70, 110, 68, 114, 111, 112, 112, 101, 100].map Char.ofNat), ([108, 111, 111, 112, 46, 101, 120, 97, 109, 112, 108, 101, 47, 103, 48, 48, 52, 56, 57, 47, 108, 97, 119, 115, 46, 70, 110, 66, 111, 116, 104, 87, 97, 121, 115].map Char.ofNat), ([108, 111, 111, 112, 46, 101, 120, 97, 109, 112, 108, 101, 47, 103, 48, 48, 52, 56, 57, 47, 108, 97, 119, 115, 46, 70, 110, 84, 97, 109, 112, 101, 114, 101, 100].map Char.ofNat)] := Je3 (l := ([104, 97, 114, 110, 101, 115, 115, 32, 57, 49, 102, 52, 102, 52, 52, 100, 53, 57, 55, 102, 55, 53, 51, 100, 49, 56, 52, 102, 54, 57, 57, 97, 53, 52, 102, 56, 48, 50, 100, 48, 100, 53, 102, 54, 99, 102, 99, 57, 57, 100, 55, 101, 99, 100, 57, 54, 48, 100, 101, 54, 102, 101, 56, 55, 55, 101, 50, 98, 99, 52, 97, 97, 32, 99, 117, 116, 32, 97, 116, 32, 108, 111, 111, 112, 46, 101, 120, 97, 109, 112, 108, 101, 47, 103, 48, 48, 52, 56, 57, 47, 108, 97, 119, 115, 46, 70, 110, 68, 114, 111, 112, 112, 101, 100, 32, 108, 111, 111, 112, 46, 101, 120, 97, 109, 112, 108, 101, 47, 103, 48, 48, 52, 56, 57, 47, 108, 97, 119, 115, 46, 70, 110, 66, 111, 116, 104, 87, 97, 121, 115, 32, 108, 111, 111, 112, 46, 101, 120, 97, 109, 112, 108, 101, 47, 103, 48, 48, 52, 56, 57, 47, 108, 97, 119, 115, 46, 70, 110, 84, 97, 109, 112, 101, 114, 101, 100].map Char.ofNat)) (by kernel_rfl) (by kernel_rfl)
theorem Jfw : (match behindMainWord [([104, 97, 114, 110, 101, 115, 115].map Char.ofNat), ([57, 49, 102, 52, 102, 52, 52, 100, 53, 57, 55, 102, 55, 53, 51, 100, 49, 56, 52, 102, 54, 57, 57, 97, 53, 52, 102, 56, 48, 50, 100, 48, 100, 53, 102, 54, 99, 102, 99, 57, 57, 100, 55, 101, 99, 100, 57, 54, 48, 100, 101, 54, 102, 101, 56, 55, 55, 101, 50, 98, 99, 52, 97, 97].map Char.ofNat), ([99, 117, 116].map Char.ofNat), ([97, 116].map Char.ofNat), ([108, 111, 111, 112, 46, 101, 120, 97, 109, 112, 108, 101, 47, 103, 48, 48, 52, 56, 57, 47, 108, 97, 119, 115, 46, 70, 110, 68, 114, 111, 112, 112, 101, 100].map Char.ofNat), ([108, 111, 111, 112, 46, 101, 120, 97, 109, 112, 108, 101, 47, 103, 48, 48, 52, 56, 57, 47, 108, 97, 119, 115, 46, 70, 110, 66, 111, 116, 104, 87, 97, 121, 115].map Char.ofNat), ([108, 111, 111, 112, 46, 101, 120, 97, 109, 112, 108, 101, 47, 103, 48, 48, 52, 56, 57, 47, 108, 97, 119, 115, 46, 70, 110, 84, 97, 109, 112, 101, 114, 101, 100].map Char.ofNat)] with | c :: _ => c == "cut".toList | [] => false) = true := by kernel_rfl
theorem Jhd : Tryz.prog.make=some .cut := Jip Ji4 Jfw
theorem Je2 : Tryz.prog.liftsFinal=false := Ji1 Ji4 Jfw
theorem Jf5 : Tryz.prog.laysLater=false := by kernel_rfl
theorem Jhh : Tryz.prog.bearsReflect=false := by kernel_rfl
theorem Jg2 : Tryz.prog.doorRows=[] := by kernel_rfl
theorem Jj7 : Tryz.prog.mayEnter=true := Jhs Ji4 Jfw Jf5 Jhh Jg2
theorem Q8y : laidOutB Tryz.prog=true := by kernel_rfl
theorem own : ownKnob Tryz.prog.godebug=none := by kernel_rfl
theorem Jhy : mapsRowed Tryz.prog=true := by kernel_rfl
theorem Jg1 : Tryz.prog.plainKeys=true := by kernel_rfl
theorem Je9 : Tryz.prog.stopsHeard=true := by kernel_rfl
end Go.Proofs.YtpcmapfabndggaaGreat
