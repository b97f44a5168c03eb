/-
  DERIVED. GIVEN WITH THE SEED: THE CARDS: each row of YtjbepkeehkaoeaaDoorRows.lean that lists a variable, with what it lists TIED to the program's text (the seventh form; the later family's looks); each row that meets fmt, with fmt's text TOLD by the authors' own Lean function (tested against real Go, not proved from fmt's source: count such statements apart). THE CARD IS WHAT COUNTS. Prove the row's statement (the work); the ties are given (YtjbepkeehkaoeaaDoorTie.lean); close each card by the builder's one call (the guide's Derived/Test/ToyasCard.lean, 'card_holds'). Laid BY PROGRAM, IN A SANDBOX (cutbox-door.mjs). By AI agents, Wed Nov 11 2026. No macro, syntax, notation, axiom, sorry.
-/
import Derived.Test.YtjbepkeehkaoeaaDoorRows
import GoSem.ClaimSeven
namespace Go.Proofs.YtjbepkeehkaoeaaDoor
namespace Rows

/-- THE TIED CARD OF 'laws.FnExactDecText'. -/
def fnExactDecTextCard : Claim7 := { stood := { row := fnExactDecTextRow, standIns := [], harness := (true, "c11dc00c0bc8ab05484c832c5b20ecb3ed4cfea2a6e59754038a83e88457178f"), looks := false }, kinds := [], alts := [], laidByText := true, laidKinds := [.data, .data, .data], laidTests := true, laidLooks := .later }
def FnExactDecTextCardSaid : Prop := Claim7.holds Tryd.pinned (.plain (OpenSpec.ofChange fnExactDecTextSpec)) fnExactDecTextCard

/-- THE TIED CARD OF 'laws.FnExactMoneyText'. -/
def fnExactMoneyTextCard : Claim7 := { stood := { row := fnExactMoneyTextRow, standIns := [], harness := (true, "c11dc00c0bc8ab05484c832c5b20ecb3ed4cfea2a6e59754038a83e88457178f"), looks := false }, kinds := [], alts := [], laidByText := true, laidKinds := [.data, .data, .data, .data], laidTests := true, laidLooks := .later }
def FnExactMoneyTextCardSaid : Prop := Claim7.holds Tryd.pinned (.plain (OpenSpec.ofChange fnExactMoneyTextSpec)) fnExactMoneyTextCard

/-- THE SECOND FORM's CARD OF 'laws.FnExactDecText'. -/
def fnExactDecTextUptoCard : Claim7 := { stood := { row := fnExactDecTextUptoRow, standIns := [], harness := (true, "c11dc00c0bc8ab05484c832c5b20ecb3ed4cfea2a6e59754038a83e88457178f"), looks := false }, kinds := [], alts := [], laidByText := true, laidKinds := [.data, .data, .data], laidTests := true, laidLooks := .later }
def FnExactDecTextUptoCardSaid : Prop := Claim7.holds Tryd.pinned (.plain (OpenSpec.upto fnExactDecTextSpec)) fnExactDecTextUptoCard

/-- THE SECOND FORM's CARD OF 'laws.FnExactMoneyText'. -/
def fnExactMoneyTextUptoCard : Claim7 := { stood := { row := fnExactMoneyTextUptoRow, standIns := [], harness := (true, "c11dc00c0bc8ab05484c832c5b20ecb3ed4cfea2a6e59754038a83e88457178f"), looks := false }, kinds := [], alts := [], laidByText := true, laidKinds := [.data, .data, .data, .data], laidTests := true, laidLooks := .later }
def FnExactMoneyTextUptoCardSaid : Prop := Claim7.holds Tryd.pinned (.plain (OpenSpec.upto fnExactMoneyTextSpec)) fnExactMoneyTextUptoCard
end Rows
end Go.Proofs.YtjbepkeehkaoeaaDoor
