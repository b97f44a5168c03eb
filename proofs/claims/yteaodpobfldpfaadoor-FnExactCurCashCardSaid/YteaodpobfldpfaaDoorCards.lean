/-
  DERIVED. GIVEN WITH THE SEED: THE CARDS: each row of YteaodpobfldpfaaDoorRows.lean that lists a variable, with what it lists TIED to the program's text (the seventh form; the later family's looks); each row that meets fmt, with fmt's text TOLD by the authors' own Lean function (tested against real Go, not proved from fmt's source: count such statements apart). THE CARD IS WHAT COUNTS. Prove the row's statement (the work); the ties are given (YteaodpobfldpfaaDoorTie.lean); close each card by the builder's one call (the guide's Derived/Test/ToyasCard.lean, 'card_holds'). Laid BY PROGRAM, IN A SANDBOX (cutbox-door.mjs). By AI agents, Wed Nov 11 2026. No macro, syntax, notation, axiom, sorry.
-/
import Derived.Test.YteaodpobfldpfaaDoorRows
import GoSem.ClaimSeven
namespace Go.Proofs.YteaodpobfldpfaaDoor
namespace Rows

/-- THE TIED CARD OF 'laws.FnExactCurOf'. -/
def fnExactCurOfCard : Claim7 := { stood := { row := fnExactCurOfRow, standIns := [], harness := (true, "3873559ac7fdb4c981d457e69835a9e9681a4b5f33d2a9e1256d68ff1cc8052b"), looks := false }, kinds := [], alts := [], laidByText := true, laidKinds := [.data], laidTests := true, laidLooks := .later }
def FnExactCurOfCardSaid : Prop := Claim7.holds Tryd.pinned (.plain (OpenSpec.ofChange fnExactCurOfSpec)) fnExactCurOfCard

/-- THE TIED CARD OF 'laws.FnExactCurCash'. -/
def fnExactCurCashCard : Claim7 := { stood := { row := fnExactCurCashRow, standIns := [], harness := (true, "3873559ac7fdb4c981d457e69835a9e9681a4b5f33d2a9e1256d68ff1cc8052b"), looks := false }, kinds := [], alts := [], laidByText := true, laidKinds := [.data], laidTests := true, laidLooks := .later }
def FnExactCurCashCardSaid : Prop := Claim7.holds Tryd.pinned (.plain (OpenSpec.ofChange fnExactCurCashSpec)) fnExactCurCashCard

/-- THE TIED CARD OF 'laws.FnExactCurKnown'. -/
def fnExactCurKnownCard : Claim7 := { stood := { row := fnExactCurKnownRow, standIns := [], harness := (true, "3873559ac7fdb4c981d457e69835a9e9681a4b5f33d2a9e1256d68ff1cc8052b"), looks := false }, kinds := [], alts := [], laidByText := true, laidKinds := [.data], laidTests := true, laidLooks := .later }
def FnExactCurKnownCardSaid : Prop := Claim7.holds Tryd.pinned (.plain (OpenSpec.ofChange fnExactCurKnownSpec)) fnExactCurKnownCard

/-- THE TIED CARD OF 'laws.FnExactCurNumber'. -/
def fnExactCurNumberCard : Claim7 := { stood := { row := fnExactCurNumberRow, standIns := [], harness := (true, "3873559ac7fdb4c981d457e69835a9e9681a4b5f33d2a9e1256d68ff1cc8052b"), looks := false }, kinds := [], alts := [], laidByText := true, laidKinds := [.data], laidTests := true, laidLooks := .later }
def FnExactCurNumberCardSaid : Prop := Claim7.holds Tryd.pinned (.plain (OpenSpec.ofChange fnExactCurNumberSpec)) fnExactCurNumberCard

/-- THE TIED CARD OF 'laws.FnExactCurPlaces'. -/
def fnExactCurPlacesCard : Claim7 := { stood := { row := fnExactCurPlacesRow, standIns := [], harness := (true, "3873559ac7fdb4c981d457e69835a9e9681a4b5f33d2a9e1256d68ff1cc8052b"), looks := false }, kinds := [], alts := [], laidByText := true, laidKinds := [.data], laidTests := true, laidLooks := .later }
def FnExactCurPlacesCardSaid : Prop := Claim7.holds Tryd.pinned (.plain (OpenSpec.ofChange fnExactCurPlacesSpec)) fnExactCurPlacesCard

/-- THE SECOND FORM's CARD OF 'laws.FnExactCurOf'. -/
def fnExactCurOfUptoCard : Claim7 := { stood := { row := fnExactCurOfUptoRow, standIns := [], harness := (true, "3873559ac7fdb4c981d457e69835a9e9681a4b5f33d2a9e1256d68ff1cc8052b"), looks := false }, kinds := [], alts := [], laidByText := true, laidKinds := [.data], laidTests := true, laidLooks := .later }
def FnExactCurOfUptoCardSaid : Prop := Claim7.holds Tryd.pinned (.plain (OpenSpec.upto fnExactCurOfSpec)) fnExactCurOfUptoCard

/-- THE SECOND FORM's CARD OF 'laws.FnExactCurCash'. -/
def fnExactCurCashUptoCard : Claim7 := { stood := { row := fnExactCurCashUptoRow, standIns := [], harness := (true, "3873559ac7fdb4c981d457e69835a9e9681a4b5f33d2a9e1256d68ff1cc8052b"), looks := false }, kinds := [], alts := [], laidByText := true, laidKinds := [.data], laidTests := true, laidLooks := .later }
def FnExactCurCashUptoCardSaid : Prop := Claim7.holds Tryd.pinned (.plain (OpenSpec.upto fnExactCurCashSpec)) fnExactCurCashUptoCard

/-- THE SECOND FORM's CARD OF 'laws.FnExactCurKnown'. -/
def fnExactCurKnownUptoCard : Claim7 := { stood := { row := fnExactCurKnownUptoRow, standIns := [], harness := (true, "3873559ac7fdb4c981d457e69835a9e9681a4b5f33d2a9e1256d68ff1cc8052b"), looks := false }, kinds := [], alts := [], laidByText := true, laidKinds := [.data], laidTests := true, laidLooks := .later }
def FnExactCurKnownUptoCardSaid : Prop := Claim7.holds Tryd.pinned (.plain (OpenSpec.upto fnExactCurKnownSpec)) fnExactCurKnownUptoCard

/-- THE SECOND FORM's CARD OF 'laws.FnExactCurNumber'. -/
def fnExactCurNumberUptoCard : Claim7 := { stood := { row := fnExactCurNumberUptoRow, standIns := [], harness := (true, "3873559ac7fdb4c981d457e69835a9e9681a4b5f33d2a9e1256d68ff1cc8052b"), looks := false }, kinds := [], alts := [], laidByText := true, laidKinds := [.data], laidTests := true, laidLooks := .later }
def FnExactCurNumberUptoCardSaid : Prop := Claim7.holds Tryd.pinned (.plain (OpenSpec.upto fnExactCurNumberSpec)) fnExactCurNumberUptoCard

/-- THE SECOND FORM's CARD OF 'laws.FnExactCurPlaces'. -/
def fnExactCurPlacesUptoCard : Claim7 := { stood := { row := fnExactCurPlacesUptoRow, standIns := [], harness := (true, "3873559ac7fdb4c981d457e69835a9e9681a4b5f33d2a9e1256d68ff1cc8052b"), looks := false }, kinds := [], alts := [], laidByText := true, laidKinds := [.data], laidTests := true, laidLooks := .later }
def FnExactCurPlacesUptoCardSaid : Prop := Claim7.holds Tryd.pinned (.plain (OpenSpec.upto fnExactCurPlacesSpec)) fnExactCurPlacesUptoCard
end Rows
end Go.Proofs.YteaodpobfldpfaaDoor
