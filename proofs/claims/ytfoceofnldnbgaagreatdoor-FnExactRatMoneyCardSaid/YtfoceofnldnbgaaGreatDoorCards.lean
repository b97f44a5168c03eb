/-
  DERIVED. GIVEN WITH THE SEED: THE CARDS: each row of YtfoceofnldnbgaaGreatDoorRows.lean that lists a variable, with what it lists TIED to the program's text (the seventh form; the later family's looks); each row that meets fmt, with fmt's text TOLD by the authors' own Lean function (tested against real Go, not proved from fmt's source: count such statements apart). THE CARD IS WHAT COUNTS. Prove the row's statement (the work); the ties are given (YtfoceofnldnbgaaGreatDoorTie.lean); close each card by the builder's one call (the guide's Derived/Test/ToyasCard.lean, 'card_holds'). Laid BY PROGRAM, IN A SANDBOX (cutbox-door.mjs). By AI agents, Wed Nov 11 2026. No macro, syntax, notation, axiom, sorry.
-/
import Derived.Test.YtfoceofnldnbgaaGreatDoorRows
import GoSem.ClaimSeven
namespace Go.Proofs.YtfoceofnldnbgaaGreatDoor
namespace Rows

/-- THE TIED CARD OF 'laws.FnExactRatMoney'. -/
def fnExactRatMoneyCard : Claim7 := { stood := { row := fnExactRatMoneyRow, standIns := [], harness := (true, "8af884c11203ea6494cbf31a654e573c2ca1f4dcb08779f9a4a4a7edfbdb1ac8"), looks := false }, kinds := [], alts := [], laidByText := true, laidKinds := [.data], laidTests := true, laidLooks := .later }
def FnExactRatMoneyCardSaid : Prop := Claim7.holds Tryz.pinned (.plain (OpenSpec.ofChange fnExactRatMoneySpec)) fnExactRatMoneyCard

/-- THE SECOND FORM's CARD OF 'laws.FnExactRatMoney'. -/
def fnExactRatMoneyUptoCard : Claim7 := { stood := { row := fnExactRatMoneyUptoRow, standIns := [], harness := (true, "8af884c11203ea6494cbf31a654e573c2ca1f4dcb08779f9a4a4a7edfbdb1ac8"), looks := false }, kinds := [], alts := [], laidByText := true, laidKinds := [.data], laidTests := true, laidLooks := .later }
def FnExactRatMoneyUptoCardSaid : Prop := Claim7.holds Tryz.pinned (.plain (OpenSpec.upto fnExactRatMoneySpec)) fnExactRatMoneyUptoCard
end Rows
end Go.Proofs.YtfoceofnldnbgaaGreatDoor
