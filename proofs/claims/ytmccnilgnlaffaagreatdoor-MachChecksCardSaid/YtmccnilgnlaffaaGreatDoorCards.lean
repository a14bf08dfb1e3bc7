/-
  DERIVED. GIVEN WITH THE SEED: THE CARDS: each row of YtmccnilgnlaffaaGreatDoorRows.lean that lists a variable, with what it lists TIED to the program's text (the seventh form; the later family's looks); each row that meets fmt, with fmt's text TOLD by the authors' own Lean function (tested against real Go, not proved from fmt's source: count such statements apart). THE CARD IS WHAT COUNTS. Prove the row's statement (the work); the ties are given (YtmccnilgnlaffaaGreatDoorTie.lean); close each card by the builder's one call (the guide's Derived/Test/ToyasCard.lean, 'card_holds'). Laid BY PROGRAM, IN A SANDBOX (cutbox-door.mjs). By AI agents, Wed Nov 11 2026. No macro, syntax, notation, axiom, sorry.
-/
import Derived.Test.YtmccnilgnlaffaaGreatDoorRows
import GoSem.ClaimSeven
namespace Go.Proofs.YtmccnilgnlaffaaGreatDoor
namespace Rows

/-- THE TIED CARD OF 'pigeonholelaw12.MachChecks'. -/
def machChecksCard : Claim7 := { stood := { row := machChecksRow, standIns := [], harness := (true, "a605fa903225d37440567b730f9f6d9c8f2167856030b3fcb7fae08e246bda84"), looks := true }, kinds := [], alts := [], laidByText := true, laidKinds := [.data, .data, .data, .data, .sentinel, .sentinel, .pinned], laidTests := true, laidLooks := .later }
def MachChecksCardSaid : Prop := Claim7.holds Tryz.pinned (.plain (OpenSpec.ofChange machChecksSpec)) machChecksCard

/-- THE TIED CARD OF 'pigeonholelaw12.MachTies'. -/
def machTiesCard : Claim7 := { stood := { row := machTiesRow, standIns := [], harness := (true, "a605fa903225d37440567b730f9f6d9c8f2167856030b3fcb7fae08e246bda84"), looks := true }, kinds := [], alts := [], laidByText := true, laidKinds := [.data, .data, .data, .data, .sentinel, .sentinel, .pinned], laidTests := true, laidLooks := .later }
def MachTiesCardSaid : Prop := Claim7.holds Tryz.pinned (.plain (OpenSpec.ofChange machTiesSpec)) machTiesCard

/-- THE SECOND FORM's CARD OF 'pigeonholelaw12.MachChecks'. -/
def machChecksUptoCard : Claim7 := { stood := { row := machChecksUptoRow, standIns := [], harness := (true, "a605fa903225d37440567b730f9f6d9c8f2167856030b3fcb7fae08e246bda84"), looks := true }, kinds := [], alts := [], laidByText := true, laidKinds := [.data, .data, .data, .data, .sentinel, .sentinel, .pinned], laidTests := true, laidLooks := .later }
def MachChecksUptoCardSaid : Prop := Claim7.holds Tryz.pinned (.plain (OpenSpec.upto machChecksSpec)) machChecksUptoCard

/-- THE SECOND FORM's CARD OF 'pigeonholelaw12.MachTies'. -/
def machTiesUptoCard : Claim7 := { stood := { row := machTiesUptoRow, standIns := [], harness := (true, "a605fa903225d37440567b730f9f6d9c8f2167856030b3fcb7fae08e246bda84"), looks := true }, kinds := [], alts := [], laidByText := true, laidKinds := [.data, .data, .data, .data, .sentinel, .sentinel, .pinned], laidTests := true, laidLooks := .later }
def MachTiesUptoCardSaid : Prop := Claim7.holds Tryz.pinned (.plain (OpenSpec.upto machTiesSpec)) machTiesUptoCard
end Rows
end Go.Proofs.YtmccnilgnlaffaaGreatDoor
