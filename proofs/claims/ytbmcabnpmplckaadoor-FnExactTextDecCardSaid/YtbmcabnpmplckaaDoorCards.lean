/-
  DERIVED. GIVEN WITH THE SEED: THE CARDS: each row of YtbmcabnpmplckaaDoorRows.lean that lists a variable, with what it lists TIED to the program's text (the seventh form; the later family's looks); each row that meets fmt, with fmt's text TOLD by the authors' own Lean function (tested against real Go, not proved from fmt's source: count such statements apart). THE CARD IS WHAT COUNTS. Prove the row's statement (the work); the ties are given (YtbmcabnpmplckaaDoorTie.lean); close each card by the builder's one call (the guide's Derived/Test/ToyasCard.lean, 'card_holds'). Laid BY PROGRAM, IN A SANDBOX (cutbox-door.mjs). By AI agents, Wed Nov 11 2026. No macro, syntax, notation, axiom, sorry.
-/
import Derived.Test.YtbmcabnpmplckaaDoorRows
import GoSem.ClaimSeven
namespace Go.Proofs.YtbmcabnpmplckaaDoor
namespace Rows

/-- THE TIED CARD OF 'laws.FnExactTextDec'. -/
def fnExactTextDecCard : Claim7 := { stood := { row := fnExactTextDecRow, standIns := [], harness := (true, "29223049e06a0978ab7b3c54ffe91708298727107e512535bda1575d850fbc3a"), looks := false }, kinds := [], alts := [], laidByText := true, laidKinds := [.data, .data, .data], laidTests := true, laidLooks := .later }
def FnExactTextDecCardSaid : Prop := Claim7.holds Tryd.pinned (.plain (OpenSpec.ofChange fnExactTextDecSpec)) fnExactTextDecCard

/-- THE SECOND FORM's CARD OF 'laws.FnExactTextDec'. -/
def fnExactTextDecUptoCard : Claim7 := { stood := { row := fnExactTextDecUptoRow, standIns := [], harness := (true, "29223049e06a0978ab7b3c54ffe91708298727107e512535bda1575d850fbc3a"), looks := false }, kinds := [], alts := [], laidByText := true, laidKinds := [.data, .data, .data], laidTests := true, laidLooks := .later }
def FnExactTextDecUptoCardSaid : Prop := Claim7.holds Tryd.pinned (.plain (OpenSpec.upto fnExactTextDecSpec)) fnExactTextDecUptoCard
end Rows
end Go.Proofs.YtbmcabnpmplckaaDoor
