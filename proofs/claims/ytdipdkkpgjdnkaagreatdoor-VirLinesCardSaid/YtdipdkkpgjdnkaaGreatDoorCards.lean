/-
  DERIVED. GIVEN WITH THE SEED: THE CARDS: each row of YtdipdkkpgjdnkaaGreatDoorRows.lean that lists a variable, with what it lists TIED to the program's text (the seventh form; the later family's looks); each row that meets fmt, with fmt's text TOLD by the authors' own Lean function (tested against real Go, not proved from fmt's source: count such statements apart). THE CARD IS WHAT COUNTS. Prove the row's statement (the work); the ties are given (YtdipdkkpgjdnkaaGreatDoorTie.lean); close each card by the builder's one call (the guide's Derived/Test/ToyasCard.lean, 'card_holds'). Laid BY PROGRAM, IN A SANDBOX (cutbox-door.mjs). By AI agents, Wed Nov 11 2026. No macro, syntax, notation, axiom, sorry.
-/
import Derived.Test.YtdipdkkpgjdnkaaGreatDoorRows
import GoSem.ClaimSeven
namespace Go.Proofs.YtdipdkkpgjdnkaaGreatDoor
namespace Rows

/-- THE TIED CARD OF 'pigeonholelaw9.VirLines'. -/
def virLinesCard : Claim7 := { stood := { row := virLinesRow, standIns := [], harness := (true, "b6e514b50ffdeb0a144742e96144a47437486c35d996404da1a55cd31fe6adac"), looks := true }, kinds := [], alts := [], laidByText := true, laidKinds := [.data, .data, .data, .data, .sentinel, .sentinel, .pinned], laidTests := true, laidLooks := .later }
def VirLinesCardSaid : Prop := Claim7.holds Tryz.pinned (.plain (OpenSpec.ofChange virLinesSpec)) virLinesCard

/-- THE SECOND FORM's CARD OF 'pigeonholelaw9.VirLines'. -/
def virLinesUptoCard : Claim7 := { stood := { row := virLinesUptoRow, standIns := [], harness := (true, "b6e514b50ffdeb0a144742e96144a47437486c35d996404da1a55cd31fe6adac"), looks := true }, kinds := [], alts := [], laidByText := true, laidKinds := [.data, .data, .data, .data, .sentinel, .sentinel, .pinned], laidTests := true, laidLooks := .later }
def VirLinesUptoCardSaid : Prop := Claim7.holds Tryz.pinned (.plain (OpenSpec.upto virLinesSpec)) virLinesUptoCard
end Rows
end Go.Proofs.YtdipdkkpgjdnkaaGreatDoor
