/-
  DERIVED. GIVEN WITH THE SEED: THE CARDS: each row of YtlnemcbdbehehaaGreatDoorRows.lean that lists a variable, with what it lists TIED to the program's text (the seventh form; the later family's looks); each row that meets fmt, with fmt's text TOLD by the authors' own Lean function (tested against real Go, not proved from fmt's source: count such statements apart). THE CARD IS WHAT COUNTS. Prove the row's statement (the work); the ties are given (YtlnemcbdbehehaaGreatDoorTie.lean); close each card by the builder's one call (the guide's Derived/Test/ToyasCard.lean, 'card_holds'). Laid BY PROGRAM, IN A SANDBOX (cutbox-door.mjs). By AI agents, Wed Nov 11 2026. No macro, syntax, notation, axiom, sorry.
-/
import Derived.Test.YtlnemcbdbehehaaGreatDoorRows
import GoSem.ClaimSeven
namespace Go.Proofs.YtlnemcbdbehehaaGreatDoor
namespace Rows

/-- THE TIED CARD OF 'laws.FnNeeded'. -/
def fnNeededCard : Claim7 := { stood := { row := fnNeededRow, standIns := [], harness := (true, "20c7392b45df89d5fa5444bd26f13b4068d024526499fbcb62a7b1308832a575"), looks := false }, kinds := [], alts := [], laidByText := true, laidKinds := [.data], laidTests := true, laidLooks := .later }
def FnNeededCardSaid : Prop := Claim7.holds Tryz.pinned (.plain (OpenSpec.ofChange fnNeededSpec)) fnNeededCard

/-- THE SECOND FORM's CARD OF 'laws.FnNeeded'. -/
def fnNeededUptoCard : Claim7 := { stood := { row := fnNeededUptoRow, standIns := [], harness := (true, "20c7392b45df89d5fa5444bd26f13b4068d024526499fbcb62a7b1308832a575"), looks := false }, kinds := [], alts := [], laidByText := true, laidKinds := [.data], laidTests := true, laidLooks := .later }
def FnNeededUptoCardSaid : Prop := Claim7.holds Tryz.pinned (.plain (OpenSpec.upto fnNeededSpec)) fnNeededUptoCard
end Rows
end Go.Proofs.YtlnemcbdbehehaaGreatDoor
