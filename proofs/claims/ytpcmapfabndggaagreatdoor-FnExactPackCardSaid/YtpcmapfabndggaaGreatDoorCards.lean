/-
  DERIVED. GIVEN WITH THE SEED: THE CARDS: each row of YtpcmapfabndggaaGreatDoorRows.lean that lists a variable, with what it lists TIED to the program's text (the seventh form; the later family's looks); each row that meets fmt, with fmt's text TOLD by the authors' own Lean function (tested against real Go, not proved from fmt's source: count such statements apart). THE CARD IS WHAT COUNTS. Prove the row's statement (the work); the ties are given (YtpcmapfabndggaaGreatDoorTie.lean); close each card by the builder's one call (the guide's Derived/Test/ToyasCard.lean, 'card_holds'). Laid BY PROGRAM, IN A SANDBOX (cutbox-door.mjs). By AI agents, Wed Nov 11 2026. No macro, syntax, notation, axiom, sorry.
-/
import Derived.Test.YtpcmapfabndggaaGreatDoorRows
import GoSem.ClaimSeven
namespace Go.Proofs.YtpcmapfabndggaaGreatDoor
namespace Rows

/-- THE TIED CARD OF 'laws.FnPlanned'. -/
def fnPlannedCard : Claim7 := { stood := { row := fnPlannedRow, standIns := [], harness := (true, "5a437f63bff02dec8dd1d2f9ed1147ee18cb6344cc57df7621b020c39d6f4360"), looks := true }, kinds := [], alts := [], laidByText := true, laidKinds := [.data, .data, .data], laidTests := true, laidLooks := .later }
def FnPlannedCardSaid : Prop := Claim7.holds Tryz.pinned (.plain (OpenSpec.ofChange fnPlannedSpec)) fnPlannedCard

/-- THE TIED CARD OF 'laws.FnExactPack'. -/
def fnExactPackCard : Claim7 := { stood := { row := fnExactPackRow, standIns := [], harness := (true, "5a437f63bff02dec8dd1d2f9ed1147ee18cb6344cc57df7621b020c39d6f4360"), looks := true }, kinds := [], alts := [], laidByText := true, laidKinds := [.data, .data, .data, .sentinel, .sentinel], laidTests := true, laidLooks := .later }
def FnExactPackCardSaid : Prop := Claim7.holds Tryz.pinned (.plain (OpenSpec.ofChange fnExactPackSpec)) fnExactPackCard

/-- THE TIED CARD OF 'laws.FnExactVerify'. -/
def fnExactVerifyCard : Claim7 := { stood := { row := fnExactVerifyRow, standIns := [], harness := (true, "5a437f63bff02dec8dd1d2f9ed1147ee18cb6344cc57df7621b020c39d6f4360"), looks := true }, kinds := [], alts := [], laidByText := true, laidKinds := [.data, .data, .data, .sentinel, .sentinel], laidTests := true, laidLooks := .later }
def FnExactVerifyCardSaid : Prop := Claim7.holds Tryz.pinned (.plain (OpenSpec.ofChange fnExactVerifySpec)) fnExactVerifyCard

/-- THE SECOND FORM's CARD OF 'laws.FnPlanned'. -/
def fnPlannedUptoCard : Claim7 := { stood := { row := fnPlannedUptoRow, standIns := [], harness := (true, "5a437f63bff02dec8dd1d2f9ed1147ee18cb6344cc57df7621b020c39d6f4360"), looks := true }, kinds := [], alts := [], laidByText := true, laidKinds := [.data, .data, .data], laidTests := true, laidLooks := .later }
def FnPlannedUptoCardSaid : Prop := Claim7.holds Tryz.pinned (.plain (OpenSpec.upto fnPlannedSpec)) fnPlannedUptoCard

/-- THE SECOND FORM's CARD OF 'laws.FnExactPack'. -/
def fnExactPackUptoCard : Claim7 := { stood := { row := fnExactPackUptoRow, standIns := [], harness := (true, "5a437f63bff02dec8dd1d2f9ed1147ee18cb6344cc57df7621b020c39d6f4360"), looks := true }, kinds := [], alts := [], laidByText := true, laidKinds := [.data, .data, .data, .sentinel, .sentinel], laidTests := true, laidLooks := .later }
def FnExactPackUptoCardSaid : Prop := Claim7.holds Tryz.pinned (.plain (OpenSpec.upto fnExactPackSpec)) fnExactPackUptoCard

/-- THE SECOND FORM's CARD OF 'laws.FnExactVerify'. -/
def fnExactVerifyUptoCard : Claim7 := { stood := { row := fnExactVerifyUptoRow, standIns := [], harness := (true, "5a437f63bff02dec8dd1d2f9ed1147ee18cb6344cc57df7621b020c39d6f4360"), looks := true }, kinds := [], alts := [], laidByText := true, laidKinds := [.data, .data, .data, .sentinel, .sentinel], laidTests := true, laidLooks := .later }
def FnExactVerifyUptoCardSaid : Prop := Claim7.holds Tryz.pinned (.plain (OpenSpec.upto fnExactVerifySpec)) fnExactVerifyUptoCard
end Rows
end Go.Proofs.YtpcmapfabndggaaGreatDoor
