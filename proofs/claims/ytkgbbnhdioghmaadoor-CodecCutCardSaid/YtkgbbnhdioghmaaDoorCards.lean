/-
  DERIVED. GIVEN WITH THE SEED: THE CARDS: each row of YtkgbbnhdioghmaaDoorRows.lean that lists a variable, with what it lists TIED to the program's text (the seventh form; the later family's looks); each row that meets fmt, with fmt's text TOLD by the authors' own Lean function (tested against real Go, not proved from fmt's source: count such statements apart). THE CARD IS WHAT COUNTS. Prove the row's statement (the work); the ties are given (YtkgbbnhdioghmaaDoorTie.lean); close each card by the builder's one call (the guide's Derived/Test/ToyasCard.lean, 'card_holds'). Laid BY PROGRAM, IN A SANDBOX (cutbox-door.mjs). By AI agents, Wed Nov 11 2026. No macro, syntax, notation, axiom, sorry.
-/
import Derived.Test.YtkgbbnhdioghmaaDoorRows
import GoSem.ClaimSeven
namespace Go.Proofs.YtkgbbnhdioghmaaDoor
namespace Rows

/-- THE TIED CARD OF 'quoratelaw09.CodecIds'. -/
def codecIdsCard : Claim7 := { stood := { row := codecIdsRow, standIns := [], harness := (true, "4a4c14f1a719fd1652dbe43f01bc5d9bce15d50268ffe705520c8f6404d06d59"), looks := true }, kinds := [], alts := [], laidByText := true, laidKinds := [.sentinel, .sentinel, .data], laidTests := true, laidLooks := .later }
def CodecIdsCardSaid : Prop := Claim7.holds Tryd.pinned (.plain (OpenSpec.ofChange codecIdsSpec)) codecIdsCard

/-- THE TIED CARD OF 'quoratelaw09.CodecSigned'. -/
def codecSignedCard : Claim7 := { stood := { row := codecSignedRow, standIns := [], harness := (true, "4a4c14f1a719fd1652dbe43f01bc5d9bce15d50268ffe705520c8f6404d06d59"), looks := true }, kinds := [], alts := [], laidByText := true, laidKinds := [.sentinel, .sentinel, .data], laidTests := true, laidLooks := .later }
def CodecSignedCardSaid : Prop := Claim7.holds Tryd.pinned (.plain (OpenSpec.ofChange codecSignedSpec)) codecSignedCard

/-- THE TIED CARD OF 'quoratelaw09.CodecKinds'. -/
def codecKindsCard : Claim7 := { stood := { row := codecKindsRow, standIns := [], harness := (true, "4a4c14f1a719fd1652dbe43f01bc5d9bce15d50268ffe705520c8f6404d06d59"), looks := true }, kinds := [], alts := [], laidByText := true, laidKinds := [.sentinel, .sentinel, .sentinel, .sentinel], laidTests := true, laidLooks := .later }
def CodecKindsCardSaid : Prop := Claim7.holds Tryd.pinned (.plain (OpenSpec.ofChange codecKindsSpec)) codecKindsCard

/-- THE TIED CARD OF 'quoratelaw15.BlocksOnce'. -/
def blocksOnceCard : Claim7 := { stood := { row := blocksOnceRow, standIns := [], harness := (true, "4a4c14f1a719fd1652dbe43f01bc5d9bce15d50268ffe705520c8f6404d06d59"), looks := true }, kinds := [], alts := [], laidByText := true, laidKinds := [.sentinel, .sentinel, .sentinel, .sentinel, .sentinel, .sentinel, .sentinel, .sentinel, .data], laidTests := true, laidLooks := .later }
def BlocksOnceCardSaid : Prop := Claim7.holds Tryd.pinned (.plain (OpenSpec.ofChange blocksOnceSpec)) blocksOnceCard

/-- THE TIED CARD OF 'quoratelaw15.BlocksApart'. -/
def blocksApartCard : Claim7 := { stood := { row := blocksApartRow, standIns := [], harness := (true, "4a4c14f1a719fd1652dbe43f01bc5d9bce15d50268ffe705520c8f6404d06d59"), looks := true }, kinds := [], alts := [], laidByText := true, laidKinds := [.sentinel, .sentinel, .sentinel, .sentinel, .sentinel, .sentinel, .sentinel, .sentinel, .data], laidTests := true, laidLooks := .later }
def BlocksApartCardSaid : Prop := Claim7.holds Tryd.pinned (.plain (OpenSpec.ofChange blocksApartSpec)) blocksApartCard

/-- THE TIED CARD OF 'quoratelaw09.CodecCut'. -/
def codecCutCard : Claim7 := { stood := { row := codecCutRow, standIns := [], harness := (true, "4a4c14f1a719fd1652dbe43f01bc5d9bce15d50268ffe705520c8f6404d06d59"), looks := true }, kinds := [], alts := [], laidByText := true, laidKinds := [.sentinel, .sentinel, .sentinel, .sentinel, .sentinel, .sentinel, .sentinel, .sentinel, .sentinel, .sentinel, .sentinel, .sentinel, .sentinel, .sentinel, .sentinel, .sentinel, .sentinel, .sentinel], laidTests := true, laidLooks := .later }
def CodecCutCardSaid : Prop := Claim7.holds Tryd.pinned (.plain (OpenSpec.ofChange codecCutSpec)) codecCutCard

/-- THE TIED CARD OF 'quoratelaw15.BlocksForks'. -/
def blocksForksCard : Claim7 := { stood := { row := blocksForksRow, standIns := [], harness := (true, "4a4c14f1a719fd1652dbe43f01bc5d9bce15d50268ffe705520c8f6404d06d59"), looks := true }, kinds := [], alts := [], laidByText := true, laidKinds := [.sentinel, .sentinel, .sentinel, .sentinel, .sentinel, .sentinel, .sentinel, .sentinel, .data], laidTests := true, laidLooks := .later }
def BlocksForksCardSaid : Prop := Claim7.holds Tryd.pinned (.plain (OpenSpec.ofChange blocksForksSpec)) blocksForksCard

/-- THE TIED CARD OF 'quoratelaw15.BlocksRipe'. -/
def blocksRipeCard : Claim7 := { stood := { row := blocksRipeRow, standIns := [], harness := (true, "4a4c14f1a719fd1652dbe43f01bc5d9bce15d50268ffe705520c8f6404d06d59"), looks := true }, kinds := [], alts := [], laidByText := true, laidKinds := [.sentinel, .sentinel, .sentinel, .sentinel, .sentinel, .sentinel, .sentinel, .sentinel, .data], laidTests := true, laidLooks := .later }
def BlocksRipeCardSaid : Prop := Claim7.holds Tryd.pinned (.plain (OpenSpec.ofChange blocksRipeSpec)) blocksRipeCard

/-- THE SECOND FORM's CARD OF 'quoratelaw09.CodecIds'. -/
def codecIdsUptoCard : Claim7 := { stood := { row := codecIdsUptoRow, standIns := [], harness := (true, "4a4c14f1a719fd1652dbe43f01bc5d9bce15d50268ffe705520c8f6404d06d59"), looks := true }, kinds := [], alts := [], laidByText := true, laidKinds := [.sentinel, .sentinel, .data], laidTests := true, laidLooks := .later }
def CodecIdsUptoCardSaid : Prop := Claim7.holds Tryd.pinned (.plain (OpenSpec.upto codecIdsSpec)) codecIdsUptoCard

/-- THE SECOND FORM's CARD OF 'quoratelaw09.CodecSigned'. -/
def codecSignedUptoCard : Claim7 := { stood := { row := codecSignedUptoRow, standIns := [], harness := (true, "4a4c14f1a719fd1652dbe43f01bc5d9bce15d50268ffe705520c8f6404d06d59"), looks := true }, kinds := [], alts := [], laidByText := true, laidKinds := [.sentinel, .sentinel, .data], laidTests := true, laidLooks := .later }
def CodecSignedUptoCardSaid : Prop := Claim7.holds Tryd.pinned (.plain (OpenSpec.upto codecSignedSpec)) codecSignedUptoCard

/-- THE SECOND FORM's CARD OF 'quoratelaw09.CodecKinds'. -/
def codecKindsUptoCard : Claim7 := { stood := { row := codecKindsUptoRow, standIns := [], harness := (true, "4a4c14f1a719fd1652dbe43f01bc5d9bce15d50268ffe705520c8f6404d06d59"), looks := true }, kinds := [], alts := [], laidByText := true, laidKinds := [.sentinel, .sentinel, .sentinel, .sentinel], laidTests := true, laidLooks := .later }
def CodecKindsUptoCardSaid : Prop := Claim7.holds Tryd.pinned (.plain (OpenSpec.upto codecKindsSpec)) codecKindsUptoCard

/-- THE SECOND FORM's CARD OF 'quoratelaw15.BlocksOnce'. -/
def blocksOnceUptoCard : Claim7 := { stood := { row := blocksOnceUptoRow, standIns := [], harness := (true, "4a4c14f1a719fd1652dbe43f01bc5d9bce15d50268ffe705520c8f6404d06d59"), looks := true }, kinds := [], alts := [], laidByText := true, laidKinds := [.sentinel, .sentinel, .sentinel, .sentinel, .sentinel, .sentinel, .sentinel, .sentinel, .data], laidTests := true, laidLooks := .later }
def BlocksOnceUptoCardSaid : Prop := Claim7.holds Tryd.pinned (.plain (OpenSpec.upto blocksOnceSpec)) blocksOnceUptoCard

/-- THE SECOND FORM's CARD OF 'quoratelaw15.BlocksApart'. -/
def blocksApartUptoCard : Claim7 := { stood := { row := blocksApartUptoRow, standIns := [], harness := (true, "4a4c14f1a719fd1652dbe43f01bc5d9bce15d50268ffe705520c8f6404d06d59"), looks := true }, kinds := [], alts := [], laidByText := true, laidKinds := [.sentinel, .sentinel, .sentinel, .sentinel, .sentinel, .sentinel, .sentinel, .sentinel, .data], laidTests := true, laidLooks := .later }
def BlocksApartUptoCardSaid : Prop := Claim7.holds Tryd.pinned (.plain (OpenSpec.upto blocksApartSpec)) blocksApartUptoCard

/-- THE SECOND FORM's CARD OF 'quoratelaw09.CodecCut'. -/
def codecCutUptoCard : Claim7 := { stood := { row := codecCutUptoRow, standIns := [], harness := (true, "4a4c14f1a719fd1652dbe43f01bc5d9bce15d50268ffe705520c8f6404d06d59"), looks := true }, kinds := [], alts := [], laidByText := true, laidKinds := [.sentinel, .sentinel, .sentinel, .sentinel, .sentinel, .sentinel, .sentinel, .sentinel, .sentinel, .sentinel, .sentinel, .sentinel, .sentinel, .sentinel, .sentinel, .sentinel, .sentinel, .sentinel], laidTests := true, laidLooks := .later }
def CodecCutUptoCardSaid : Prop := Claim7.holds Tryd.pinned (.plain (OpenSpec.upto codecCutSpec)) codecCutUptoCard

/-- THE SECOND FORM's CARD OF 'quoratelaw15.BlocksForks'. -/
def blocksForksUptoCard : Claim7 := { stood := { row := blocksForksUptoRow, standIns := [], harness := (true, "4a4c14f1a719fd1652dbe43f01bc5d9bce15d50268ffe705520c8f6404d06d59"), looks := true }, kinds := [], alts := [], laidByText := true, laidKinds := [.sentinel, .sentinel, .sentinel, .sentinel, .sentinel, .sentinel, .sentinel, .sentinel, .data], laidTests := true, laidLooks := .later }
def BlocksForksUptoCardSaid : Prop := Claim7.holds Tryd.pinned (.plain (OpenSpec.upto blocksForksSpec)) blocksForksUptoCard

/-- THE SECOND FORM's CARD OF 'quoratelaw15.BlocksRipe'. -/
def blocksRipeUptoCard : Claim7 := { stood := { row := blocksRipeUptoRow, standIns := [], harness := (true, "4a4c14f1a719fd1652dbe43f01bc5d9bce15d50268ffe705520c8f6404d06d59"), looks := true }, kinds := [], alts := [], laidByText := true, laidKinds := [.sentinel, .sentinel, .sentinel, .sentinel, .sentinel, .sentinel, .sentinel, .sentinel, .data], laidTests := true, laidLooks := .later }
def BlocksRipeUptoCardSaid : Prop := Claim7.holds Tryd.pinned (.plain (OpenSpec.upto blocksRipeSpec)) blocksRipeUptoCard
end Rows
end Go.Proofs.YtkgbbnhdioghmaaDoor
