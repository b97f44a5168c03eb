/-
  DERIVED. GIVEN WITH THE SEED: THE CARDS: each row of YtnpjfkhleaegmaaDoorRows.lean that lists a variable, with what it lists TIED to the program's text (the seventh form; the later family's looks); each row that meets fmt, with fmt's text TOLD by the authors' own Lean function (tested against real Go, not proved from fmt's source: count such statements apart). THE CARD IS WHAT COUNTS. Prove the row's statement (the work); the ties are given (YtnpjfkhleaegmaaDoorTie.lean); close each card by the builder's one call (the guide's Derived/Test/ToyasCard.lean, 'card_holds'). Laid BY PROGRAM, IN A SANDBOX (cutbox-door.mjs). By AI agents, Wed Nov 11 2026. No macro, syntax, notation, axiom, sorry.
-/
import Derived.Test.YtnpjfkhleaegmaaDoorRows
import GoSem.ClaimSeven
namespace Go.Proofs.YtnpjfkhleaegmaaDoor
namespace Rows

/-- THE TIED CARD OF 'laws.FnExactMoneyRat'. -/
def fnExactMoneyRatCard : Claim7 := { stood := { row := fnExactMoneyRatRow, standIns := [], harness := (true, "4fd8c0f561f9e90b9207f491e86c71548326c85da6d39ab947d11ec66b9b2c05"), looks := false }, kinds := [], alts := [], laidByText := true, laidKinds := [.data], laidTests := true, laidLooks := .later }
def FnExactMoneyRatCardSaid : Prop := Claim7.holds Tryd.pinned (.plain (OpenSpec.ofChange fnExactMoneyRatSpec)) fnExactMoneyRatCard

/-- THE SECOND FORM's CARD OF 'laws.FnExactMoneyRat'. -/
def fnExactMoneyRatUptoCard : Claim7 := { stood := { row := fnExactMoneyRatUptoRow, standIns := [], harness := (true, "4fd8c0f561f9e90b9207f491e86c71548326c85da6d39ab947d11ec66b9b2c05"), looks := false }, kinds := [], alts := [], laidByText := true, laidKinds := [.data], laidTests := true, laidLooks := .later }
def FnExactMoneyRatUptoCardSaid : Prop := Claim7.holds Tryd.pinned (.plain (OpenSpec.upto fnExactMoneyRatSpec)) fnExactMoneyRatUptoCard
end Rows
end Go.Proofs.YtnpjfkhleaegmaaDoor
