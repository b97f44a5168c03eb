/-
  DERIVED. GIVEN WITH THE SEED: THE CARDS: each row of YtemlgjheidbccaaDoorRows.lean that lists a variable, with what it lists TIED to the program's text (the seventh form; the later family's looks); each row that meets fmt, with fmt's text TOLD by the authors' own Lean function (tested against real Go, not proved from fmt's source: count such statements apart). THE CARD IS WHAT COUNTS. Prove the row's statement (the work); the ties are given (YtemlgjheidbccaaDoorTie.lean); close each card by the builder's one call (the guide's Derived/Test/ToyasCard.lean, 'card_holds'). Laid BY PROGRAM, IN A SANDBOX (cutbox-door.mjs). By AI agents, Wed Nov 11 2026. No macro, syntax, notation, axiom, sorry.
-/
import Derived.Test.YtemlgjheidbccaaDoorRows
import GoSem.ClaimSeven
namespace Go.Proofs.YtemlgjheidbccaaDoor
namespace Rows

/-- THE TIED CARD OF 'laws.FnExactCurs'. -/
def fnExactCursCard : Claim7 := { stood := { row := fnExactCursRow, standIns := [], harness := (true, "17b705a9c5a7c2a4dd2a2f1d9d3e9e561605f912ab85969c80ca989b268e9046"), looks := false }, kinds := [], alts := [], laidByText := true, laidKinds := [.data], laidTests := true, laidLooks := .later }
def FnExactCursCardSaid : Prop := Claim7.holds Tryd.pinned (.plain (OpenSpec.ofChange fnExactCursSpec)) fnExactCursCard

/-- THE TIED CARD OF 'laws.FnCurs'. -/
def fnCursCard : Claim7 := { stood := { row := fnCursRow, standIns := [], harness := (true, "17b705a9c5a7c2a4dd2a2f1d9d3e9e561605f912ab85969c80ca989b268e9046"), looks := false }, kinds := [], alts := [], laidByText := true, laidKinds := [.data], laidTests := true, laidLooks := .later }
def FnCursCardSaid : Prop := Claim7.holds Tryd.pinned (.plain (OpenSpec.ofChange fnCursSpec)) fnCursCard

/-- THE SECOND FORM's CARD OF 'laws.FnExactCurs'. -/
def fnExactCursUptoCard : Claim7 := { stood := { row := fnExactCursUptoRow, standIns := [], harness := (true, "17b705a9c5a7c2a4dd2a2f1d9d3e9e561605f912ab85969c80ca989b268e9046"), looks := false }, kinds := [], alts := [], laidByText := true, laidKinds := [.data], laidTests := true, laidLooks := .later }
def FnExactCursUptoCardSaid : Prop := Claim7.holds Tryd.pinned (.plain (OpenSpec.upto fnExactCursSpec)) fnExactCursUptoCard

/-- THE SECOND FORM's CARD OF 'laws.FnCurs'. -/
def fnCursUptoCard : Claim7 := { stood := { row := fnCursUptoRow, standIns := [], harness := (true, "17b705a9c5a7c2a4dd2a2f1d9d3e9e561605f912ab85969c80ca989b268e9046"), looks := false }, kinds := [], alts := [], laidByText := true, laidKinds := [.data], laidTests := true, laidLooks := .later }
def FnCursUptoCardSaid : Prop := Claim7.holds Tryd.pinned (.plain (OpenSpec.upto fnCursSpec)) fnCursUptoCard
end Rows
end Go.Proofs.YtemlgjheidbccaaDoor
