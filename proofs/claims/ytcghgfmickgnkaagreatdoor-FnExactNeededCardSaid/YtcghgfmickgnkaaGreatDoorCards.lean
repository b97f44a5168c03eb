/-
  DERIVED. GIVEN WITH THE SEED: THE CARDS: each row of YtcghgfmickgnkaaGreatDoorRows.lean that lists a variable, with what it lists TIED to the program's text (the seventh form; the later family's looks); each row that meets fmt, with fmt's text TOLD by the authors' own Lean function (tested against real Go, not proved from fmt's source: count such statements apart). THE CARD IS WHAT COUNTS. Prove the row's statement (the work); the ties are given (YtcghgfmickgnkaaGreatDoorTie.lean); close each card by the builder's one call (the guide's Derived/Test/ToyasCard.lean, 'card_holds'). Laid BY PROGRAM, IN A SANDBOX (cutbox-door.mjs). By AI agents, Wed Nov 11 2026. No macro, syntax, notation, axiom, sorry.
-/
import Derived.Test.YtcghgfmickgnkaaGreatDoorRows
import GoSem.ClaimSeven
namespace Go.Proofs.YtcghgfmickgnkaaGreatDoor
namespace Rows

/-- THE TIED CARD OF 'laws.FnExactRateOf'. -/
def fnExactRateOfCard : Claim7 := { stood := { row := fnExactRateOfRow, standIns := [], harness := (true, "d145e5b953ef6f8cb71eb31cf3f3f312c75ea9a0494134a48fc7750ce87bd647"), looks := false }, kinds := [], alts := [], laidByText := true, laidKinds := [.data], laidTests := true, laidLooks := .later }
def FnExactRateOfCardSaid : Prop := Claim7.holds Tryz.pinned (.plain (OpenSpec.ofChange fnExactRateOfSpec)) fnExactRateOfCard

/-- THE TIED CARD OF 'laws.FnExactUnitRate'. -/
def fnExactUnitRateCard : Claim7 := { stood := { row := fnExactUnitRateRow, standIns := [], harness := (true, "d145e5b953ef6f8cb71eb31cf3f3f312c75ea9a0494134a48fc7750ce87bd647"), looks := false }, kinds := [], alts := [], laidByText := true, laidKinds := [.data], laidTests := true, laidLooks := .later }
def FnExactUnitRateCardSaid : Prop := Claim7.holds Tryz.pinned (.plain (OpenSpec.ofChange fnExactUnitRateSpec)) fnExactUnitRateCard

/-- THE TIED CARD OF 'laws.FnExactExact'. -/
def fnExactExactCard : Claim7 := { stood := { row := fnExactExactRow, standIns := [], harness := (true, "d145e5b953ef6f8cb71eb31cf3f3f312c75ea9a0494134a48fc7750ce87bd647"), looks := false }, kinds := [], alts := [], laidByText := true, laidKinds := [.data], laidTests := true, laidLooks := .later }
def FnExactExactCardSaid : Prop := Claim7.holds Tryz.pinned (.plain (OpenSpec.ofChange fnExactExactSpec)) fnExactExactCard

/-- THE TIED CARD OF 'laws.FnExactNeeded'. -/
def fnExactNeededCard : Claim7 := { stood := { row := fnExactNeededRow, standIns := [], harness := (true, "d145e5b953ef6f8cb71eb31cf3f3f312c75ea9a0494134a48fc7750ce87bd647"), looks := false }, kinds := [], alts := [], laidByText := true, laidKinds := [.data], laidTests := true, laidLooks := .later }
def FnExactNeededCardSaid : Prop := Claim7.holds Tryz.pinned (.plain (OpenSpec.ofChange fnExactNeededSpec)) fnExactNeededCard

/-- THE SECOND FORM's CARD OF 'laws.FnExactRateOf'. -/
def fnExactRateOfUptoCard : Claim7 := { stood := { row := fnExactRateOfUptoRow, standIns := [], harness := (true, "d145e5b953ef6f8cb71eb31cf3f3f312c75ea9a0494134a48fc7750ce87bd647"), looks := false }, kinds := [], alts := [], laidByText := true, laidKinds := [.data], laidTests := true, laidLooks := .later }
def FnExactRateOfUptoCardSaid : Prop := Claim7.holds Tryz.pinned (.plain (OpenSpec.upto fnExactRateOfSpec)) fnExactRateOfUptoCard

/-- THE SECOND FORM's CARD OF 'laws.FnExactUnitRate'. -/
def fnExactUnitRateUptoCard : Claim7 := { stood := { row := fnExactUnitRateUptoRow, standIns := [], harness := (true, "d145e5b953ef6f8cb71eb31cf3f3f312c75ea9a0494134a48fc7750ce87bd647"), looks := false }, kinds := [], alts := [], laidByText := true, laidKinds := [.data], laidTests := true, laidLooks := .later }
def FnExactUnitRateUptoCardSaid : Prop := Claim7.holds Tryz.pinned (.plain (OpenSpec.upto fnExactUnitRateSpec)) fnExactUnitRateUptoCard

/-- THE SECOND FORM's CARD OF 'laws.FnExactExact'. -/
def fnExactExactUptoCard : Claim7 := { stood := { row := fnExactExactUptoRow, standIns := [], harness := (true, "d145e5b953ef6f8cb71eb31cf3f3f312c75ea9a0494134a48fc7750ce87bd647"), looks := false }, kinds := [], alts := [], laidByText := true, laidKinds := [.data], laidTests := true, laidLooks := .later }
def FnExactExactUptoCardSaid : Prop := Claim7.holds Tryz.pinned (.plain (OpenSpec.upto fnExactExactSpec)) fnExactExactUptoCard

/-- THE SECOND FORM's CARD OF 'laws.FnExactNeeded'. -/
def fnExactNeededUptoCard : Claim7 := { stood := { row := fnExactNeededUptoRow, standIns := [], harness := (true, "d145e5b953ef6f8cb71eb31cf3f3f312c75ea9a0494134a48fc7750ce87bd647"), looks := false }, kinds := [], alts := [], laidByText := true, laidKinds := [.data], laidTests := true, laidLooks := .later }
def FnExactNeededUptoCardSaid : Prop := Claim7.holds Tryz.pinned (.plain (OpenSpec.upto fnExactNeededSpec)) fnExactNeededUptoCard
end Rows
end Go.Proofs.YtcghgfmickgnkaaGreatDoor
