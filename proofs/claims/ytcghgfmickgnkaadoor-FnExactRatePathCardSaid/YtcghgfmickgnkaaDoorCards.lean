/-
  DERIVED. GIVEN WITH THE SEED: THE CARDS: each row of YtcghgfmickgnkaaDoorRows.lean that lists a variable, with what it lists TIED to the program's text (the seventh form; the later family's looks); each row that meets fmt, with fmt's text TOLD by the authors' own Lean function (tested against real Go, not proved from fmt's source: count such statements apart). THE CARD IS WHAT COUNTS. Prove the row's statement (the work); the ties are given (YtcghgfmickgnkaaDoorTie.lean); close each card by the builder's one call (the guide's Derived/Test/ToyasCard.lean, 'card_holds'). Laid BY PROGRAM, IN A SANDBOX (cutbox-door.mjs). By AI agents, Wed Nov 11 2026. No macro, syntax, notation, axiom, sorry.
-/
import Derived.Test.YtcghgfmickgnkaaDoorRows
import GoSem.ClaimSeven
namespace Go.Proofs.YtcghgfmickgnkaaDoor
namespace Rows

/-- THE TIED CARD OF 'laws.FnExactRatePath'. -/
def fnExactRatePathCard : Claim7 := { stood := { row := fnExactRatePathRow, standIns := [], harness := (true, "8778878107fd4330c75e43409f5479a6759efd866270d0f94657cd1d11094fc0"), looks := false }, kinds := [], alts := [], laidByText := true, laidKinds := [.data], laidTests := true, laidLooks := .later }
def FnExactRatePathCardSaid : Prop := Claim7.holds Tryd.pinned (.plain (OpenSpec.ofChange fnExactRatePathSpec)) fnExactRatePathCard

/-- THE SECOND FORM's CARD OF 'laws.FnExactRatePath'. -/
def fnExactRatePathUptoCard : Claim7 := { stood := { row := fnExactRatePathUptoRow, standIns := [], harness := (true, "8778878107fd4330c75e43409f5479a6759efd866270d0f94657cd1d11094fc0"), looks := false }, kinds := [], alts := [], laidByText := true, laidKinds := [.data], laidTests := true, laidLooks := .later }
def FnExactRatePathUptoCardSaid : Prop := Claim7.holds Tryd.pinned (.plain (OpenSpec.upto fnExactRatePathSpec)) fnExactRatePathUptoCard
end Rows
end Go.Proofs.YtcghgfmickgnkaaDoor
