/-
  DERIVED. GIVEN WITH THE SEED: THE CARDS: each row of YtlnemcbdbehehaaDoorRows.lean that lists a variable, with what it lists TIED to the program's text (the seventh form; the later family's looks); each row that meets fmt, with fmt's text TOLD by the authors' own Lean function (tested against real Go, not proved from fmt's source: count such statements apart). THE CARD IS WHAT COUNTS. Prove the row's statement (the work); the ties are given (YtlnemcbdbehehaaDoorTie.lean); close each card by the builder's one call (the guide's Derived/Test/ToyasCard.lean, 'card_holds'). Laid BY PROGRAM, IN A SANDBOX (cutbox-door.mjs). By AI agents, Wed Nov 11 2026. No macro, syntax, notation, axiom, sorry.
-/
import Derived.Test.YtlnemcbdbehehaaDoorRows
import GoSem.ClaimSeven
namespace Go.Proofs.YtlnemcbdbehehaaDoor
namespace Rows

/-- THE TIED CARD OF 'laws.FnExactRatePut'. -/
def fnExactRatePutCard : Claim7 := { stood := { row := fnExactRatePutRow, standIns := [], harness := (true, "25b1fbd8e677726025ecd7668ccfb8e0bcb47c07cb4118b9373f3517f9bc5e36"), looks := false }, kinds := [], alts := [], laidByText := true, laidKinds := [.data], laidTests := true, laidLooks := .later }
def FnExactRatePutCardSaid : Prop := Claim7.holds Tryd.pinned (.plain (OpenSpec.ofChange fnExactRatePutSpec)) fnExactRatePutCard

/-- THE TIED CARD OF 'laws.FnRates'. -/
def fnRatesCard : Claim7 := { stood := { row := fnRatesRow, standIns := [], harness := (true, "25b1fbd8e677726025ecd7668ccfb8e0bcb47c07cb4118b9373f3517f9bc5e36"), looks := false }, kinds := [], alts := [], laidByText := true, laidKinds := [.data], laidTests := true, laidLooks := .later }
def FnRatesCardSaid : Prop := Claim7.holds Tryd.pinned (.plain (OpenSpec.ofChange fnRatesSpec)) fnRatesCard

/-- THE SECOND FORM's CARD OF 'laws.FnExactRatePut'. -/
def fnExactRatePutUptoCard : Claim7 := { stood := { row := fnExactRatePutUptoRow, standIns := [], harness := (true, "25b1fbd8e677726025ecd7668ccfb8e0bcb47c07cb4118b9373f3517f9bc5e36"), looks := false }, kinds := [], alts := [], laidByText := true, laidKinds := [.data], laidTests := true, laidLooks := .later }
def FnExactRatePutUptoCardSaid : Prop := Claim7.holds Tryd.pinned (.plain (OpenSpec.upto fnExactRatePutSpec)) fnExactRatePutUptoCard

/-- THE SECOND FORM's CARD OF 'laws.FnRates'. -/
def fnRatesUptoCard : Claim7 := { stood := { row := fnRatesUptoRow, standIns := [], harness := (true, "25b1fbd8e677726025ecd7668ccfb8e0bcb47c07cb4118b9373f3517f9bc5e36"), looks := false }, kinds := [], alts := [], laidByText := true, laidKinds := [.data], laidTests := true, laidLooks := .later }
def FnRatesUptoCardSaid : Prop := Claim7.holds Tryd.pinned (.plain (OpenSpec.upto fnRatesSpec)) fnRatesUptoCard
end Rows
end Go.Proofs.YtlnemcbdbehehaaDoor
