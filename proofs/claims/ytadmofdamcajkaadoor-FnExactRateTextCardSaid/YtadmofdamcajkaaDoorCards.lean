/-
  DERIVED. GIVEN WITH THE SEED: THE CARDS: each row of YtadmofdamcajkaaDoorRows.lean that lists a variable, with what it lists TIED to the program's text (the seventh form; the later family's looks); each row that meets fmt, with fmt's text TOLD by the authors' own Lean function (tested against real Go, not proved from fmt's source: count such statements apart). THE CARD IS WHAT COUNTS. Prove the row's statement (the work); the ties are given (YtadmofdamcajkaaDoorTie.lean); close each card by the builder's one call (the guide's Derived/Test/ToyasCard.lean, 'card_holds'). Laid BY PROGRAM, IN A SANDBOX (cutbox-door.mjs). By AI agents, Wed Nov 11 2026. No macro, syntax, notation, axiom, sorry.
-/
import Derived.Test.YtadmofdamcajkaaDoorRows
import GoSem.ClaimSeven
namespace Go.Proofs.YtadmofdamcajkaaDoor
namespace Rows

/-- THE TIED CARD OF 'laws.FnExactRateText'. -/
def fnExactRateTextCard : Claim7 := { stood := { row := fnExactRateTextRow, standIns := [], harness := (true, "012f998ecb7801caaaee3b008408ae5dec4bc16205dd2977ae8e2ea0af9df8f3"), looks := false }, kinds := [], alts := [], laidByText := true, laidKinds := [.data, .data, .data, .data], laidTests := true, laidLooks := .later }
def FnExactRateTextCardSaid : Prop := Claim7.holds Tryd.pinned (.plain (OpenSpec.ofChange fnExactRateTextSpec)) fnExactRateTextCard

/-- THE SECOND FORM's CARD OF 'laws.FnExactRateText'. -/
def fnExactRateTextUptoCard : Claim7 := { stood := { row := fnExactRateTextUptoRow, standIns := [], harness := (true, "012f998ecb7801caaaee3b008408ae5dec4bc16205dd2977ae8e2ea0af9df8f3"), looks := false }, kinds := [], alts := [], laidByText := true, laidKinds := [.data, .data, .data, .data], laidTests := true, laidLooks := .later }
def FnExactRateTextUptoCardSaid : Prop := Claim7.holds Tryd.pinned (.plain (OpenSpec.upto fnExactRateTextSpec)) fnExactRateTextUptoCard
end Rows
end Go.Proofs.YtadmofdamcajkaaDoor
