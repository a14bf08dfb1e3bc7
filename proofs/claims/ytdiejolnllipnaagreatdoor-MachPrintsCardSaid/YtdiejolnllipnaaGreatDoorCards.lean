/-
  DERIVED. GIVEN WITH THE SEED: THE CARDS: each row of YtdiejolnllipnaaGreatDoorRows.lean that lists a variable, with what it lists TIED to the program's text (the seventh form; the later family's looks); each row that meets fmt, with fmt's text TOLD by the authors' own Lean function (tested against real Go, not proved from fmt's source: count such statements apart). THE CARD IS WHAT COUNTS. Prove the row's statement (the work); the ties are given (YtdiejolnllipnaaGreatDoorTie.lean); close each card by the builder's one call (the guide's Derived/Test/ToyasCard.lean, 'card_holds'). Laid BY PROGRAM, IN A SANDBOX (cutbox-door.mjs). By AI agents, Wed Nov 11 2026. No macro, syntax, notation, axiom, sorry.
-/
import Derived.Test.YtdiejolnllipnaaGreatDoorRows
import GoSem.ClaimSeven
namespace Go.Proofs.YtdiejolnllipnaaGreatDoor
namespace Rows

/-- THE TIED CARD OF 'pigeonholelaw12.MachPrints'. -/
def machPrintsCard : Claim7 := { stood := { row := machPrintsRow, standIns := [], harness := (true, "6b966fcef6cd954299c580c98012e4f3e8d48cdd5638034812ccd4ae0911c788"), looks := true }, kinds := [], alts := [], laidByText := true, laidKinds := [.data, .data, .data, .data, .sentinel, .sentinel, .pinned], laidTests := true, laidLooks := .later }
def MachPrintsCardSaid : Prop := Claim7.holds Tryz.pinned (.plain (OpenSpec.ofChange machPrintsSpec)) machPrintsCard

/-- THE SECOND FORM's CARD OF 'pigeonholelaw12.MachPrints'. -/
def machPrintsUptoCard : Claim7 := { stood := { row := machPrintsUptoRow, standIns := [], harness := (true, "6b966fcef6cd954299c580c98012e4f3e8d48cdd5638034812ccd4ae0911c788"), looks := true }, kinds := [], alts := [], laidByText := true, laidKinds := [.data, .data, .data, .data, .sentinel, .sentinel, .pinned], laidTests := true, laidLooks := .later }
def MachPrintsUptoCardSaid : Prop := Claim7.holds Tryz.pinned (.plain (OpenSpec.upto machPrintsSpec)) machPrintsUptoCard
end Rows
end Go.Proofs.YtdiejolnllipnaaGreatDoor
