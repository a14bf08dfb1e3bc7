/-
  DERIVED. GIVEN WITH THE SEED: THE CARDS: each row of YtapnnpoljobanabGreatDoorRows.lean that lists a variable, with what it lists TIED to the program's text (the seventh form; the later family's looks); each row that meets fmt, with fmt's text TOLD by the authors' own Lean function (tested against real Go, not proved from fmt's source: count such statements apart). THE CARD IS WHAT COUNTS. Prove the row's statement (the work); the ties are given (YtapnnpoljobanabGreatDoorTie.lean); close each card by the builder's one call (the guide's Derived/Test/ToyasCard.lean, 'card_holds'). Laid BY PROGRAM, IN A SANDBOX (cutbox-door.mjs). By AI agents, Wed Nov 11 2026. No macro, syntax, notation, axiom, sorry.
-/
import Derived.Test.YtapnnpoljobanabGreatDoorRows
import GoSem.ClaimSeven
namespace Go.Proofs.YtapnnpoljobanabGreatDoor
namespace Rows

/-- THE TIED CARD OF 'pigeonholelaw12.MachBounds'. -/
def machBoundsCard : Claim7 := { stood := { row := machBoundsRow, standIns := [], harness := (true, "a745c75d8e7f9fa93c1a9b9e759a91d5113c97a88eccf38097a1b536d166f8ad"), looks := true }, kinds := [], alts := [], laidByText := true, laidKinds := [.data, .data, .data, .data, .sentinel, .sentinel, .pinned], laidTests := true, laidLooks := .later }
def MachBoundsCardSaid : Prop := Claim7.holds Tryz.pinned (.plain (OpenSpec.ofChange machBoundsSpec)) machBoundsCard

/-- THE TIED CARD OF 'pigeonholelaw12.MachWords'. -/
def machWordsCard : Claim7 := { stood := { row := machWordsRow, standIns := [], harness := (true, "a745c75d8e7f9fa93c1a9b9e759a91d5113c97a88eccf38097a1b536d166f8ad"), looks := true }, kinds := [], alts := [], laidByText := true, laidKinds := [.data, .data, .data, .data, .sentinel, .sentinel, .pinned], laidTests := true, laidLooks := .later }
def MachWordsCardSaid : Prop := Claim7.holds Tryz.pinned (.plain (OpenSpec.ofChange machWordsSpec)) machWordsCard

/-- THE SECOND FORM's CARD OF 'pigeonholelaw12.MachBounds'. -/
def machBoundsUptoCard : Claim7 := { stood := { row := machBoundsUptoRow, standIns := [], harness := (true, "a745c75d8e7f9fa93c1a9b9e759a91d5113c97a88eccf38097a1b536d166f8ad"), looks := true }, kinds := [], alts := [], laidByText := true, laidKinds := [.data, .data, .data, .data, .sentinel, .sentinel, .pinned], laidTests := true, laidLooks := .later }
def MachBoundsUptoCardSaid : Prop := Claim7.holds Tryz.pinned (.plain (OpenSpec.upto machBoundsSpec)) machBoundsUptoCard

/-- THE SECOND FORM's CARD OF 'pigeonholelaw12.MachWords'. -/
def machWordsUptoCard : Claim7 := { stood := { row := machWordsUptoRow, standIns := [], harness := (true, "a745c75d8e7f9fa93c1a9b9e759a91d5113c97a88eccf38097a1b536d166f8ad"), looks := true }, kinds := [], alts := [], laidByText := true, laidKinds := [.data, .data, .data, .data, .sentinel, .sentinel, .pinned], laidTests := true, laidLooks := .later }
def MachWordsUptoCardSaid : Prop := Claim7.holds Tryz.pinned (.plain (OpenSpec.upto machWordsSpec)) machWordsUptoCard
end Rows
end Go.Proofs.YtapnnpoljobanabGreatDoor
