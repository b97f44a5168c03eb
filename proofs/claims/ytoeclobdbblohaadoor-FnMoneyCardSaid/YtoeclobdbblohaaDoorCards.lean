/-
  DERIVED. GIVEN WITH THE SEED: THE CARDS: each row of YtoeclobdbblohaaDoorRows.lean that lists a variable, with what it lists TIED to the program's text (the seventh form; the later family's looks); each row that meets fmt, with fmt's text TOLD by the authors' own Lean function (tested against real Go, not proved from fmt's source: count such statements apart). THE CARD IS WHAT COUNTS. Prove the row's statement (the work); the ties are given (YtoeclobdbblohaaDoorTie.lean); close each card by the builder's one call (the guide's Derived/Test/ToyasCard.lean, 'card_holds'). Laid BY PROGRAM, IN A SANDBOX (cutbox-door.mjs). By AI agents, Wed Nov 11 2026. No macro, syntax, notation, axiom, sorry.
-/
import Derived.Test.YtoeclobdbblohaaDoorRows
import GoSem.ClaimSeven
namespace Go.Proofs.YtoeclobdbblohaaDoor
namespace Rows

/-- THE TIED CARD OF 'laws.FnExactTextMoney'. -/
def fnExactTextMoneyCard : Claim7 := { stood := { row := fnExactTextMoneyRow, standIns := [], harness := (true, "f87468ecf909efe29bb448471e3f2354763861e27c08f792a6a11718d0c55e46"), looks := false }, kinds := [], alts := [], laidByText := true, laidKinds := [.data, .data, .data, .data], laidTests := true, laidLooks := .later }
def FnExactTextMoneyCardSaid : Prop := Claim7.holds Tryd.pinned (.plain (OpenSpec.ofChange fnExactTextMoneySpec)) fnExactTextMoneyCard

/-- THE TIED CARD OF 'laws.FnExactTextRate'. -/
def fnExactTextRateCard : Claim7 := { stood := { row := fnExactTextRateRow, standIns := [], harness := (true, "f87468ecf909efe29bb448471e3f2354763861e27c08f792a6a11718d0c55e46"), looks := false }, kinds := [], alts := [], laidByText := true, laidKinds := [.data, .data, .data, .data], laidTests := true, laidLooks := .later }
def FnExactTextRateCardSaid : Prop := Claim7.holds Tryd.pinned (.plain (OpenSpec.ofChange fnExactTextRateSpec)) fnExactTextRateCard

/-- THE TIED CARD OF 'laws.FnMoney'. -/
def fnMoneyCard : Claim7 := { stood := { row := fnMoneyRow, standIns := [], harness := (true, "f87468ecf909efe29bb448471e3f2354763861e27c08f792a6a11718d0c55e46"), looks := false }, kinds := [], alts := [], laidByText := true, laidKinds := [.data, .data, .data, .data], laidTests := true, laidLooks := .later }
def FnMoneyCardSaid : Prop := Claim7.holds Tryd.pinned (.plain (OpenSpec.ofChange fnMoneySpec)) fnMoneyCard

/-- THE SECOND FORM's CARD OF 'laws.FnExactTextMoney'. -/
def fnExactTextMoneyUptoCard : Claim7 := { stood := { row := fnExactTextMoneyUptoRow, standIns := [], harness := (true, "f87468ecf909efe29bb448471e3f2354763861e27c08f792a6a11718d0c55e46"), looks := false }, kinds := [], alts := [], laidByText := true, laidKinds := [.data, .data, .data, .data], laidTests := true, laidLooks := .later }
def FnExactTextMoneyUptoCardSaid : Prop := Claim7.holds Tryd.pinned (.plain (OpenSpec.upto fnExactTextMoneySpec)) fnExactTextMoneyUptoCard

/-- THE SECOND FORM's CARD OF 'laws.FnExactTextRate'. -/
def fnExactTextRateUptoCard : Claim7 := { stood := { row := fnExactTextRateUptoRow, standIns := [], harness := (true, "f87468ecf909efe29bb448471e3f2354763861e27c08f792a6a11718d0c55e46"), looks := false }, kinds := [], alts := [], laidByText := true, laidKinds := [.data, .data, .data, .data], laidTests := true, laidLooks := .later }
def FnExactTextRateUptoCardSaid : Prop := Claim7.holds Tryd.pinned (.plain (OpenSpec.upto fnExactTextRateSpec)) fnExactTextRateUptoCard

/-- THE SECOND FORM's CARD OF 'laws.FnMoney'. -/
def fnMoneyUptoCard : Claim7 := { stood := { row := fnMoneyUptoRow, standIns := [], harness := (true, "f87468ecf909efe29bb448471e3f2354763861e27c08f792a6a11718d0c55e46"), looks := false }, kinds := [], alts := [], laidByText := true, laidKinds := [.data, .data, .data, .data], laidTests := true, laidLooks := .later }
def FnMoneyUptoCardSaid : Prop := Claim7.holds Tryd.pinned (.plain (OpenSpec.upto fnMoneySpec)) fnMoneyUptoCard
end Rows
end Go.Proofs.YtoeclobdbblohaaDoor
