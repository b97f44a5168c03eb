/-
  DERIVED. GIVEN WITH THE SEED: THE CARDS: each row of YtoeclobdbblohaaGreatDoorRows.lean that lists a variable, with what it lists TIED to the program's text (the seventh form; the later family's looks); each row that meets fmt, with fmt's text TOLD by the authors' own Lean function (tested against real Go, not proved from fmt's source: count such statements apart). THE CARD IS WHAT COUNTS. Prove the row's statement (the work); the ties are given (YtoeclobdbblohaaGreatDoorTie.lean); close each card by the builder's one call (the guide's Derived/Test/ToyasCard.lean, 'card_holds'). Laid BY PROGRAM, IN A SANDBOX (cutbox-door.mjs). By AI agents, Wed Nov 11 2026. No macro, syntax, notation, axiom, sorry.
-/
import Derived.Test.YtoeclobdbblohaaGreatDoorRows
import GoSem.ClaimSeven
namespace Go.Proofs.YtoeclobdbblohaaGreatDoor
namespace Rows

/-- THE TIED CARD OF 'laws.FnDec'. -/
def fnDecCard : Claim7 := { stood := { row := fnDecRow, standIns := [], harness := (true, "5e34ea393102ea5151d800165cbd1985185a01af8fbf653a35271c5071939af6"), looks := false }, kinds := [], alts := [], laidByText := true, laidKinds := [.data, .data, .data], laidTests := true, laidLooks := .later }
def FnDecCardSaid : Prop := Claim7.holds Tryz.pinned (.plain (OpenSpec.ofChange fnDecSpec)) fnDecCard

/-- THE TIED CARD OF 'laws.FnPut'. -/
def fnPutCard : Claim7 := { stood := { row := fnPutRow, standIns := [], harness := (true, "5e34ea393102ea5151d800165cbd1985185a01af8fbf653a35271c5071939af6"), looks := false }, kinds := [], alts := [], laidByText := true, laidKinds := [.data, .data, .data, .data], laidTests := true, laidLooks := .later }
def FnPutCardSaid : Prop := Claim7.holds Tryz.pinned (.plain (OpenSpec.ofChange fnPutSpec)) fnPutCard

/-- THE SECOND FORM's CARD OF 'laws.FnDec'. -/
def fnDecUptoCard : Claim7 := { stood := { row := fnDecUptoRow, standIns := [], harness := (true, "5e34ea393102ea5151d800165cbd1985185a01af8fbf653a35271c5071939af6"), looks := false }, kinds := [], alts := [], laidByText := true, laidKinds := [.data, .data, .data], laidTests := true, laidLooks := .later }
def FnDecUptoCardSaid : Prop := Claim7.holds Tryz.pinned (.plain (OpenSpec.upto fnDecSpec)) fnDecUptoCard

/-- THE SECOND FORM's CARD OF 'laws.FnPut'. -/
def fnPutUptoCard : Claim7 := { stood := { row := fnPutUptoRow, standIns := [], harness := (true, "5e34ea393102ea5151d800165cbd1985185a01af8fbf653a35271c5071939af6"), looks := false }, kinds := [], alts := [], laidByText := true, laidKinds := [.data, .data, .data, .data], laidTests := true, laidLooks := .later }
def FnPutUptoCardSaid : Prop := Claim7.holds Tryz.pinned (.plain (OpenSpec.upto fnPutSpec)) fnPutUptoCard
end Rows
end Go.Proofs.YtoeclobdbblohaaGreatDoor
