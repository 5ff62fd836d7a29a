/-
  DERIVED. GIVEN WITH THE SEED: THE CARDS: each row of YtkgbbnhdioghmaaGreatDoorRows.lean that lists a variable, with what it lists TIED to the program's text (the seventh form; the later family's looks); each row that meets fmt, with fmt's text TOLD by the authors' own Lean function (tested against real Go, not proved from fmt's source: count such statements apart). THE CARD IS WHAT COUNTS. Prove the row's statement (the work); the ties are given (YtkgbbnhdioghmaaGreatDoorTie.lean); close each card by the builder's one call (the guide's Derived/Test/ToyasCard.lean, 'card_holds'). Laid BY PROGRAM, IN A SANDBOX (cutbox-door.mjs). By AI agents, Wed Nov 11 2026. No macro, syntax, notation, axiom, sorry.
-/
import Derived.Test.YtkgbbnhdioghmaaGreatDoorRows
import GoSem.ClaimSeven
namespace Go.Proofs.YtkgbbnhdioghmaaGreatDoor
namespace Rows

/-- THE TIED CARD OF 'quoratelaw09.CodecChanges'. -/
def codecChangesCard : Claim7 := { stood := { row := codecChangesRow, standIns := [], harness := (true, "ac6416870b04086aa4df84a842e5a8a32c85fb5fb0ff4cafcc68ed0643aa9faa"), looks := true }, kinds := [], alts := [], laidByText := true, laidKinds := [.sentinel, .sentinel, .sentinel, .sentinel, .sentinel, .sentinel, .sentinel, .sentinel, .sentinel, .sentinel, .sentinel, .sentinel, .sentinel, .sentinel, .sentinel, .sentinel, .sentinel, .sentinel], laidTests := true, laidLooks := .later }
def CodecChangesCardSaid : Prop := Claim7.holds Tryz.pinned (.plain (OpenSpec.ofChange codecChangesSpec)) codecChangesCard

/-- THE TIED CARD OF 'quoratelaw09.CodecEncodes'. -/
def codecEncodesCard : Claim7 := { stood := { row := codecEncodesRow, standIns := [], harness := (true, "ac6416870b04086aa4df84a842e5a8a32c85fb5fb0ff4cafcc68ed0643aa9faa"), looks := true }, kinds := [], alts := [], laidByText := true, laidKinds := [.sentinel, .sentinel, .sentinel, .sentinel, .sentinel, .sentinel, .sentinel, .sentinel, .sentinel, .sentinel, .sentinel, .sentinel, .sentinel, .sentinel, .sentinel, .sentinel, .sentinel, .sentinel], laidTests := true, laidLooks := .later }
def CodecEncodesCardSaid : Prop := Claim7.holds Tryz.pinned (.plain (OpenSpec.ofChange codecEncodesSpec)) codecEncodesCard

/-- THE TIED CARD OF 'quoratelaw09.CodecDecodes'. -/
def codecDecodesCard : Claim7 := { stood := { row := codecDecodesRow, standIns := [], harness := (true, "ac6416870b04086aa4df84a842e5a8a32c85fb5fb0ff4cafcc68ed0643aa9faa"), looks := true }, kinds := [], alts := [], laidByText := true, laidKinds := [.sentinel, .sentinel, .sentinel, .sentinel, .sentinel, .sentinel, .sentinel, .sentinel, .sentinel, .sentinel, .sentinel, .sentinel, .sentinel, .sentinel, .sentinel, .sentinel, .sentinel, .sentinel], laidTests := true, laidLooks := .later }
def CodecDecodesCardSaid : Prop := Claim7.holds Tryz.pinned (.plain (OpenSpec.ofChange codecDecodesSpec)) codecDecodesCard

/-- THE TIED CARD OF 'quoratelaw15.BlocksRoots'. -/
def blocksRootsCard : Claim7 := { stood := { row := blocksRootsRow, standIns := [], harness := (true, "ac6416870b04086aa4df84a842e5a8a32c85fb5fb0ff4cafcc68ed0643aa9faa"), looks := true }, kinds := [], alts := [], laidByText := true, laidKinds := [.sentinel, .sentinel, .sentinel, .sentinel, .sentinel, .sentinel, .sentinel, .sentinel, .sentinel, .sentinel, .sentinel, .sentinel, .sentinel, .sentinel, .sentinel, .sentinel, .sentinel, .sentinel, .data], laidTests := true, laidLooks := .later }
def BlocksRootsCardSaid : Prop := Claim7.holds Tryz.pinned (.plain (OpenSpec.ofChange blocksRootsSpec)) blocksRootsCard

/-- THE TIED CARD OF 'quoratelaw09.CodecBlocks'. -/
def codecBlocksCard : Claim7 := { stood := { row := codecBlocksRow, standIns := [], harness := (true, "ac6416870b04086aa4df84a842e5a8a32c85fb5fb0ff4cafcc68ed0643aa9faa"), looks := true }, kinds := [], alts := [], laidByText := true, laidKinds := [.sentinel, .sentinel, .sentinel, .sentinel, .sentinel, .sentinel, .sentinel, .sentinel, .sentinel, .sentinel, .sentinel, .sentinel, .sentinel, .sentinel, .sentinel, .sentinel, .sentinel, .sentinel, .data], laidTests := true, laidLooks := .later }
def CodecBlocksCardSaid : Prop := Claim7.holds Tryz.pinned (.plain (OpenSpec.ofChange codecBlocksSpec)) codecBlocksCard

/-- THE SECOND FORM's CARD OF 'quoratelaw09.CodecChanges'. -/
def codecChangesUptoCard : Claim7 := { stood := { row := codecChangesUptoRow, standIns := [], harness := (true, "ac6416870b04086aa4df84a842e5a8a32c85fb5fb0ff4cafcc68ed0643aa9faa"), looks := true }, kinds := [], alts := [], laidByText := true, laidKinds := [.sentinel, .sentinel, .sentinel, .sentinel, .sentinel, .sentinel, .sentinel, .sentinel, .sentinel, .sentinel, .sentinel, .sentinel, .sentinel, .sentinel, .sentinel, .sentinel, .sentinel, .sentinel], laidTests := true, laidLooks := .later }
def CodecChangesUptoCardSaid : Prop := Claim7.holds Tryz.pinned (.plain (OpenSpec.upto codecChangesSpec)) codecChangesUptoCard

/-- THE SECOND FORM's CARD OF 'quoratelaw09.CodecEncodes'. -/
def codecEncodesUptoCard : Claim7 := { stood := { row := codecEncodesUptoRow, standIns := [], harness := (true, "ac6416870b04086aa4df84a842e5a8a32c85fb5fb0ff4cafcc68ed0643aa9faa"), looks := true }, kinds := [], alts := [], laidByText := true, laidKinds := [.sentinel, .sentinel, .sentinel, .sentinel, .sentinel, .sentinel, .sentinel, .sentinel, .sentinel, .sentinel, .sentinel, .sentinel, .sentinel, .sentinel, .sentinel, .sentinel, .sentinel, .sentinel], laidTests := true, laidLooks := .later }
def CodecEncodesUptoCardSaid : Prop := Claim7.holds Tryz.pinned (.plain (OpenSpec.upto codecEncodesSpec)) codecEncodesUptoCard

/-- THE SECOND FORM's CARD OF 'quoratelaw09.CodecDecodes'. -/
def codecDecodesUptoCard : Claim7 := { stood := { row := codecDecodesUptoRow, standIns := [], harness := (true, "ac6416870b04086aa4df84a842e5a8a32c85fb5fb0ff4cafcc68ed0643aa9faa"), looks := true }, kinds := [], alts := [], laidByText := true, laidKinds := [.sentinel, .sentinel, .sentinel, .sentinel, .sentinel, .sentinel, .sentinel, .sentinel, .sentinel, .sentinel, .sentinel, .sentinel, .sentinel, .sentinel, .sentinel, .sentinel, .sentinel, .sentinel], laidTests := true, laidLooks := .later }
def CodecDecodesUptoCardSaid : Prop := Claim7.holds Tryz.pinned (.plain (OpenSpec.upto codecDecodesSpec)) codecDecodesUptoCard

/-- THE SECOND FORM's CARD OF 'quoratelaw15.BlocksRoots'. -/
def blocksRootsUptoCard : Claim7 := { stood := { row := blocksRootsUptoRow, standIns := [], harness := (true, "ac6416870b04086aa4df84a842e5a8a32c85fb5fb0ff4cafcc68ed0643aa9faa"), looks := true }, kinds := [], alts := [], laidByText := true, laidKinds := [.sentinel, .sentinel, .sentinel, .sentinel, .sentinel, .sentinel, .sentinel, .sentinel, .sentinel, .sentinel, .sentinel, .sentinel, .sentinel, .sentinel, .sentinel, .sentinel, .sentinel, .sentinel, .data], laidTests := true, laidLooks := .later }
def BlocksRootsUptoCardSaid : Prop := Claim7.holds Tryz.pinned (.plain (OpenSpec.upto blocksRootsSpec)) blocksRootsUptoCard

/-- THE SECOND FORM's CARD OF 'quoratelaw09.CodecBlocks'. -/
def codecBlocksUptoCard : Claim7 := { stood := { row := codecBlocksUptoRow, standIns := [], harness := (true, "ac6416870b04086aa4df84a842e5a8a32c85fb5fb0ff4cafcc68ed0643aa9faa"), looks := true }, kinds := [], alts := [], laidByText := true, laidKinds := [.sentinel, .sentinel, .sentinel, .sentinel, .sentinel, .sentinel, .sentinel, .sentinel, .sentinel, .sentinel, .sentinel, .sentinel, .sentinel, .sentinel, .sentinel, .sentinel, .sentinel, .sentinel, .data], laidTests := true, laidLooks := .later }
def CodecBlocksUptoCardSaid : Prop := Claim7.holds Tryz.pinned (.plain (OpenSpec.upto codecBlocksSpec)) codecBlocksUptoCard
end Rows
end Go.Proofs.YtkgbbnhdioghmaaGreatDoor
