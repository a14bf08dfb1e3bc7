/-
  DERIVED. GIVEN WITH THE SEED: THE CARDS: each row of YtgmdibmehojmlaaGreatDoorRows.lean that lists a variable, with what it lists TIED to the program's text (the seventh form; the later family's looks); each row that meets fmt, with fmt's text TOLD by the authors' own Lean function (tested against real Go, not proved from fmt's source: count such statements apart). THE CARD IS WHAT COUNTS. Prove the row's statement (the work); the ties are given (YtgmdibmehojmlaaGreatDoorTie.lean); close each card by the builder's one call (the guide's Derived/Test/ToyasCard.lean, 'card_holds'). Laid BY PROGRAM, IN A SANDBOX (cutbox-door.mjs). By AI agents, Wed Nov 11 2026. No macro, syntax, notation, axiom, sorry.
-/
import Derived.Test.YtgmdibmehojmlaaGreatDoorRows
import GoSem.ClaimSeven
namespace Go.Proofs.YtgmdibmehojmlaaGreatDoor
namespace Rows

/-- THE TIED CARD OF 'pigeonholelaw21.CheckerPlaces'. -/
def checkerPlacesCard : Claim7 := { stood := { row := checkerPlacesRow, standIns := [], harness := (true, "3b0b5299996ae24a77c2979520aa1dc02319b346a83fa4e06b01e0739d5600f9"), looks := true }, kinds := [], alts := [], laidByText := true, laidKinds := [.data], laidTests := true, laidLooks := .later }
def CheckerPlacesCardSaid : Prop := Claim7.holds Tryz.pinned (.plain (OpenSpec.ofChange checkerPlacesSpec)) checkerPlacesCard

/-- THE TIED CARD OF 'pigeonholelaw21.CheckerSlots'. -/
def checkerSlotsCard : Claim7 := { stood := { row := checkerSlotsRow, standIns := [], harness := (true, "3b0b5299996ae24a77c2979520aa1dc02319b346a83fa4e06b01e0739d5600f9"), looks := true }, kinds := [], alts := [], laidByText := true, laidKinds := [.data], laidTests := true, laidLooks := .later }
def CheckerSlotsCardSaid : Prop := Claim7.holds Tryz.pinned (.plain (OpenSpec.ofChange checkerSlotsSpec)) checkerSlotsCard

/-- THE TIED CARD OF 'pigeonholelaw21.CheckerCalls'. -/
def checkerCallsCard : Claim7 := { stood := { row := checkerCallsRow, standIns := [], harness := (true, "3b0b5299996ae24a77c2979520aa1dc02319b346a83fa4e06b01e0739d5600f9"), looks := true }, kinds := [], alts := [], laidByText := true, laidKinds := [.data], laidTests := true, laidLooks := .later }
def CheckerCallsCardSaid : Prop := Claim7.holds Tryz.pinned (.plain (OpenSpec.ofChange checkerCallsSpec)) checkerCallsCard

/-- THE TIED CARD OF 'pigeonholelaw21.CheckerSaved'. -/
def checkerSavedCard : Claim7 := { stood := { row := checkerSavedRow, standIns := [], harness := (true, "3b0b5299996ae24a77c2979520aa1dc02319b346a83fa4e06b01e0739d5600f9"), looks := true }, kinds := [], alts := [], laidByText := true, laidKinds := [.data], laidTests := true, laidLooks := .later }
def CheckerSavedCardSaid : Prop := Claim7.holds Tryz.pinned (.plain (OpenSpec.ofChange checkerSavedSpec)) checkerSavedCard

/-- THE TIED CARD OF 'pigeonholelaw21.CheckerCopies'. -/
def checkerCopiesCard : Claim7 := { stood := { row := checkerCopiesRow, standIns := [], harness := (true, "3b0b5299996ae24a77c2979520aa1dc02319b346a83fa4e06b01e0739d5600f9"), looks := true }, kinds := [], alts := [], laidByText := true, laidKinds := [.data], laidTests := true, laidLooks := .later }
def CheckerCopiesCardSaid : Prop := Claim7.holds Tryz.pinned (.plain (OpenSpec.ofChange checkerCopiesSpec)) checkerCopiesCard

/-- THE TIED CARD OF 'pigeonholelaw21.CheckerMatches'. -/
def checkerMatchesCard : Claim7 := { stood := { row := checkerMatchesRow, standIns := [], harness := (true, "3b0b5299996ae24a77c2979520aa1dc02319b346a83fa4e06b01e0739d5600f9"), looks := true }, kinds := [], alts := [], laidByText := true, laidKinds := [.data], laidTests := true, laidLooks := .later }
def CheckerMatchesCardSaid : Prop := Claim7.holds Tryz.pinned (.plain (OpenSpec.ofChange checkerMatchesSpec)) checkerMatchesCard

/-- THE TIED CARD OF 'pigeonholelaw21.CheckerMeets'. -/
def checkerMeetsCard : Claim7 := { stood := { row := checkerMeetsRow, standIns := [], harness := (true, "3b0b5299996ae24a77c2979520aa1dc02319b346a83fa4e06b01e0739d5600f9"), looks := true }, kinds := [], alts := [], laidByText := true, laidKinds := [.data], laidTests := true, laidLooks := .later }
def CheckerMeetsCardSaid : Prop := Claim7.holds Tryz.pinned (.plain (OpenSpec.ofChange checkerMeetsSpec)) checkerMeetsCard

/-- THE SECOND FORM's CARD OF 'pigeonholelaw21.CheckerPlaces'. -/
def checkerPlacesUptoCard : Claim7 := { stood := { row := checkerPlacesUptoRow, standIns := [], harness := (true, "3b0b5299996ae24a77c2979520aa1dc02319b346a83fa4e06b01e0739d5600f9"), looks := true }, kinds := [], alts := [], laidByText := true, laidKinds := [.data], laidTests := true, laidLooks := .later }
def CheckerPlacesUptoCardSaid : Prop := Claim7.holds Tryz.pinned (.plain (OpenSpec.upto checkerPlacesSpec)) checkerPlacesUptoCard

/-- THE SECOND FORM's CARD OF 'pigeonholelaw21.CheckerSlots'. -/
def checkerSlotsUptoCard : Claim7 := { stood := { row := checkerSlotsUptoRow, standIns := [], harness := (true, "3b0b5299996ae24a77c2979520aa1dc02319b346a83fa4e06b01e0739d5600f9"), looks := true }, kinds := [], alts := [], laidByText := true, laidKinds := [.data], laidTests := true, laidLooks := .later }
def CheckerSlotsUptoCardSaid : Prop := Claim7.holds Tryz.pinned (.plain (OpenSpec.upto checkerSlotsSpec)) checkerSlotsUptoCard

/-- THE SECOND FORM's CARD OF 'pigeonholelaw21.CheckerCalls'. -/
def checkerCallsUptoCard : Claim7 := { stood := { row := checkerCallsUptoRow, standIns := [], harness := (true, "3b0b5299996ae24a77c2979520aa1dc02319b346a83fa4e06b01e0739d5600f9"), looks := true }, kinds := [], alts := [], laidByText := true, laidKinds := [.data], laidTests := true, laidLooks := .later }
def CheckerCallsUptoCardSaid : Prop := Claim7.holds Tryz.pinned (.plain (OpenSpec.upto checkerCallsSpec)) checkerCallsUptoCard

/-- THE SECOND FORM's CARD OF 'pigeonholelaw21.CheckerSaved'. -/
def checkerSavedUptoCard : Claim7 := { stood := { row := checkerSavedUptoRow, standIns := [], harness := (true, "3b0b5299996ae24a77c2979520aa1dc02319b346a83fa4e06b01e0739d5600f9"), looks := true }, kinds := [], alts := [], laidByText := true, laidKinds := [.data], laidTests := true, laidLooks := .later }
def CheckerSavedUptoCardSaid : Prop := Claim7.holds Tryz.pinned (.plain (OpenSpec.upto checkerSavedSpec)) checkerSavedUptoCard

/-- THE SECOND FORM's CARD OF 'pigeonholelaw21.CheckerCopies'. -/
def checkerCopiesUptoCard : Claim7 := { stood := { row := checkerCopiesUptoRow, standIns := [], harness := (true, "3b0b5299996ae24a77c2979520aa1dc02319b346a83fa4e06b01e0739d5600f9"), looks := true }, kinds := [], alts := [], laidByText := true, laidKinds := [.data], laidTests := true, laidLooks := .later }
def CheckerCopiesUptoCardSaid : Prop := Claim7.holds Tryz.pinned (.plain (OpenSpec.upto checkerCopiesSpec)) checkerCopiesUptoCard

/-- THE SECOND FORM's CARD OF 'pigeonholelaw21.CheckerMatches'. -/
def checkerMatchesUptoCard : Claim7 := { stood := { row := checkerMatchesUptoRow, standIns := [], harness := (true, "3b0b5299996ae24a77c2979520aa1dc02319b346a83fa4e06b01e0739d5600f9"), looks := true }, kinds := [], alts := [], laidByText := true, laidKinds := [.data], laidTests := true, laidLooks := .later }
def CheckerMatchesUptoCardSaid : Prop := Claim7.holds Tryz.pinned (.plain (OpenSpec.upto checkerMatchesSpec)) checkerMatchesUptoCard

/-- THE SECOND FORM's CARD OF 'pigeonholelaw21.CheckerMeets'. -/
def checkerMeetsUptoCard : Claim7 := { stood := { row := checkerMeetsUptoRow, standIns := [], harness := (true, "3b0b5299996ae24a77c2979520aa1dc02319b346a83fa4e06b01e0739d5600f9"), looks := true }, kinds := [], alts := [], laidByText := true, laidKinds := [.data], laidTests := true, laidLooks := .later }
def CheckerMeetsUptoCardSaid : Prop := Claim7.holds Tryz.pinned (.plain (OpenSpec.upto checkerMeetsSpec)) checkerMeetsUptoCard
end Rows
end Go.Proofs.YtgmdibmehojmlaaGreatDoor
