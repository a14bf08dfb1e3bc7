/-
  DERIVED. GIVEN WITH THE SEED: THE CARDS: each row of YtapnnpoljobanaaGreatDoorRows.lean that lists a variable, with what it lists TIED to the program's text (the seventh form; the later family's looks); each row that meets fmt, with fmt's text TOLD by the authors' own Lean function (tested against real Go, not proved from fmt's source: count such statements apart). THE CARD IS WHAT COUNTS. Prove the row's statement (the work); the ties are given (YtapnnpoljobanaaGreatDoorTie.lean); close each card by the builder's one call (the guide's Derived/Test/ToyasCard.lean, 'card_holds'). Laid BY PROGRAM, IN A SANDBOX (cutbox-door.mjs). By AI agents, Wed Nov 11 2026. No macro, syntax, notation, axiom, sorry.
-/
import Derived.Test.YtapnnpoljobanaaGreatDoorRows
import GoSem.ClaimSeven
namespace Go.Proofs.YtapnnpoljobanaaGreatDoor
namespace Rows

/-- THE TIED CARD OF 'pigeonholelaw8.ShippedTaken'. -/
def shippedTakenCard : Claim7 := { stood := { row := shippedTakenRow, standIns := [], harness := (true, "8df0c785bd6281c44fd7dae26885f571985c0d2b4d9a7480834d860b87b543db"), looks := true }, kinds := [], alts := [], laidByText := true, laidKinds := [.data, .data, .data], laidTests := true, laidLooks := .later }
def ShippedTakenCardSaid : Prop := Claim7.holds Tryz.pinned (.plain (OpenSpec.ofChange shippedTakenSpec)) shippedTakenCard

/-- THE TIED CARD OF 'pigeonholelaw9.VirPrints'. -/
def virPrintsCard : Claim7 := { stood := { row := virPrintsRow, standIns := [], harness := (true, "8df0c785bd6281c44fd7dae26885f571985c0d2b4d9a7480834d860b87b543db"), looks := true }, kinds := [], alts := [], laidByText := true, laidKinds := [.data, .data, .data, .data, .sentinel, .sentinel, .pinned], laidTests := true, laidLooks := .later }
def VirPrintsCardSaid : Prop := Claim7.holds Tryz.pinned (.plain (OpenSpec.ofChange virPrintsSpec)) virPrintsCard

/-- THE TIED CARD OF 'pigeonholelaw9.VirConsts'. -/
def virConstsCard : Claim7 := { stood := { row := virConstsRow, standIns := [], harness := (true, "8df0c785bd6281c44fd7dae26885f571985c0d2b4d9a7480834d860b87b543db"), looks := true }, kinds := [], alts := [], laidByText := true, laidKinds := [.data, .data, .data, .data, .sentinel, .sentinel, .pinned], laidTests := true, laidLooks := .later }
def VirConstsCardSaid : Prop := Claim7.holds Tryz.pinned (.plain (OpenSpec.ofChange virConstsSpec)) virConstsCard

/-- THE TIED CARD OF 'pigeonholelaw9.VirLines'. -/
def virLinesCard : Claim7 := { stood := { row := virLinesRow, standIns := [], harness := (true, "8df0c785bd6281c44fd7dae26885f571985c0d2b4d9a7480834d860b87b543db"), looks := true }, kinds := [], alts := [], laidByText := true, laidKinds := [.data, .data, .data, .data, .sentinel, .sentinel, .pinned], laidTests := true, laidLooks := .later }
def VirLinesCardSaid : Prop := Claim7.holds Tryz.pinned (.plain (OpenSpec.ofChange virLinesSpec)) virLinesCard

/-- THE TIED CARD OF 'pigeonholelaw9.VirLimits'. -/
def virLimitsCard : Claim7 := { stood := { row := virLimitsRow, standIns := [], harness := (true, "8df0c785bd6281c44fd7dae26885f571985c0d2b4d9a7480834d860b87b543db"), looks := true }, kinds := [], alts := [], laidByText := true, laidKinds := [.data, .data, .data, .data, .sentinel, .sentinel, .pinned], laidTests := true, laidLooks := .later }
def VirLimitsCardSaid : Prop := Claim7.holds Tryz.pinned (.plain (OpenSpec.ofChange virLimitsSpec)) virLimitsCard

/-- THE TIED CARD OF 'pigeonholelaw9.VirWords'. -/
def virWordsCard : Claim7 := { stood := { row := virWordsRow, standIns := [], harness := (true, "8df0c785bd6281c44fd7dae26885f571985c0d2b4d9a7480834d860b87b543db"), looks := true }, kinds := [], alts := [], laidByText := true, laidKinds := [.data, .data, .data, .data, .sentinel, .sentinel, .pinned], laidTests := true, laidLooks := .later }
def VirWordsCardSaid : Prop := Claim7.holds Tryz.pinned (.plain (OpenSpec.ofChange virWordsSpec)) virWordsCard

/-- THE SECOND FORM's CARD OF 'pigeonholelaw8.ShippedTaken'. -/
def shippedTakenUptoCard : Claim7 := { stood := { row := shippedTakenUptoRow, standIns := [], harness := (true, "8df0c785bd6281c44fd7dae26885f571985c0d2b4d9a7480834d860b87b543db"), looks := true }, kinds := [], alts := [], laidByText := true, laidKinds := [.data, .data, .data], laidTests := true, laidLooks := .later }
def ShippedTakenUptoCardSaid : Prop := Claim7.holds Tryz.pinned (.plain (OpenSpec.upto shippedTakenSpec)) shippedTakenUptoCard

/-- THE SECOND FORM's CARD OF 'pigeonholelaw9.VirPrints'. -/
def virPrintsUptoCard : Claim7 := { stood := { row := virPrintsUptoRow, standIns := [], harness := (true, "8df0c785bd6281c44fd7dae26885f571985c0d2b4d9a7480834d860b87b543db"), looks := true }, kinds := [], alts := [], laidByText := true, laidKinds := [.data, .data, .data, .data, .sentinel, .sentinel, .pinned], laidTests := true, laidLooks := .later }
def VirPrintsUptoCardSaid : Prop := Claim7.holds Tryz.pinned (.plain (OpenSpec.upto virPrintsSpec)) virPrintsUptoCard

/-- THE SECOND FORM's CARD OF 'pigeonholelaw9.VirConsts'. -/
def virConstsUptoCard : Claim7 := { stood := { row := virConstsUptoRow, standIns := [], harness := (true, "8df0c785bd6281c44fd7dae26885f571985c0d2b4d9a7480834d860b87b543db"), looks := true }, kinds := [], alts := [], laidByText := true, laidKinds := [.data, .data, .data, .data, .sentinel, .sentinel, .pinned], laidTests := true, laidLooks := .later }
def VirConstsUptoCardSaid : Prop := Claim7.holds Tryz.pinned (.plain (OpenSpec.upto virConstsSpec)) virConstsUptoCard

/-- THE SECOND FORM's CARD OF 'pigeonholelaw9.VirLines'. -/
def virLinesUptoCard : Claim7 := { stood := { row := virLinesUptoRow, standIns := [], harness := (true, "8df0c785bd6281c44fd7dae26885f571985c0d2b4d9a7480834d860b87b543db"), looks := true }, kinds := [], alts := [], laidByText := true, laidKinds := [.data, .data, .data, .data, .sentinel, .sentinel, .pinned], laidTests := true, laidLooks := .later }
def VirLinesUptoCardSaid : Prop := Claim7.holds Tryz.pinned (.plain (OpenSpec.upto virLinesSpec)) virLinesUptoCard

/-- THE SECOND FORM's CARD OF 'pigeonholelaw9.VirLimits'. -/
def virLimitsUptoCard : Claim7 := { stood := { row := virLimitsUptoRow, standIns := [], harness := (true, "8df0c785bd6281c44fd7dae26885f571985c0d2b4d9a7480834d860b87b543db"), looks := true }, kinds := [], alts := [], laidByText := true, laidKinds := [.data, .data, .data, .data, .sentinel, .sentinel, .pinned], laidTests := true, laidLooks := .later }
def VirLimitsUptoCardSaid : Prop := Claim7.holds Tryz.pinned (.plain (OpenSpec.upto virLimitsSpec)) virLimitsUptoCard

/-- THE SECOND FORM's CARD OF 'pigeonholelaw9.VirWords'. -/
def virWordsUptoCard : Claim7 := { stood := { row := virWordsUptoRow, standIns := [], harness := (true, "8df0c785bd6281c44fd7dae26885f571985c0d2b4d9a7480834d860b87b543db"), looks := true }, kinds := [], alts := [], laidByText := true, laidKinds := [.data, .data, .data, .data, .sentinel, .sentinel, .pinned], laidTests := true, laidLooks := .later }
def VirWordsUptoCardSaid : Prop := Claim7.holds Tryz.pinned (.plain (OpenSpec.upto virWordsSpec)) virWordsUptoCard
end Rows
end Go.Proofs.YtapnnpoljobanaaGreatDoor
