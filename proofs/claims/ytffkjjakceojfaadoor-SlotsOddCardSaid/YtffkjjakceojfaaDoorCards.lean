/-
  DERIVED. GIVEN WITH THE SEED: THE CARDS: each row of YtffkjjakceojfaaDoorRows.lean that lists a variable, with what it lists TIED to the program's text (the seventh form; the later family's looks); each row that meets fmt, with fmt's text TOLD by the authors' own Lean function (tested against real Go, not proved from fmt's source: count such statements apart). THE CARD IS WHAT COUNTS. Prove the row's statement (the work); the ties are given (YtffkjjakceojfaaDoorTie.lean); close each card by the builder's one call (the guide's Derived/Test/ToyasCard.lean, 'card_holds'). Laid BY PROGRAM, IN A SANDBOX (cutbox-door.mjs). By AI agents, Wed Nov 11 2026. No macro, syntax, notation, axiom, sorry.
-/
import Derived.Test.YtffkjjakceojfaaDoorRows
import GoSem.ClaimSeven
namespace Go.Proofs.YtffkjjakceojfaaDoor
namespace Rows

/-- THE TIED CARD OF 'quoratelaw07.SlotsElder'. -/
def slotsElderCard : Claim7 := { stood := { row := slotsElderRow, standIns := [], harness := (true, "7b122007dea9332279911b93bf3ba9c4d6cad02b412cf8a65ed72cae77b969c1"), looks := true }, kinds := [], alts := [], laidByText := true, laidKinds := [.sentinel, .sentinel, .sentinel, .sentinel, .data], laidTests := true, laidLooks := .later }
def SlotsElderCardSaid : Prop := Claim7.holds Tryd.pinned (.plain (OpenSpec.ofChange slotsElderSpec)) slotsElderCard

/-- THE TIED CARD OF 'quoratelaw07.SlotsOdd'. -/
def slotsOddCard : Claim7 := { stood := { row := slotsOddRow, standIns := [], harness := (true, "7b122007dea9332279911b93bf3ba9c4d6cad02b412cf8a65ed72cae77b969c1"), looks := true }, kinds := [], alts := [], laidByText := true, laidKinds := [.sentinel, .sentinel, .sentinel, .sentinel, .data], laidTests := true, laidLooks := .later }
def SlotsOddCardSaid : Prop := Claim7.holds Tryd.pinned (.plain (OpenSpec.ofChange slotsOddSpec)) slotsOddCard

/-- THE TIED CARD OF 'quoratelaw07.SlotsBytes'. -/
def slotsBytesCard : Claim7 := { stood := { row := slotsBytesRow, standIns := [], harness := (true, "7b122007dea9332279911b93bf3ba9c4d6cad02b412cf8a65ed72cae77b969c1"), looks := true }, kinds := [], alts := [], laidByText := true, laidKinds := [.sentinel, .sentinel, .sentinel, .sentinel, .sentinel, .sentinel, .sentinel, .sentinel, .sentinel, .sentinel, .sentinel, .sentinel, .sentinel, .sentinel, .sentinel, .sentinel, .sentinel, .sentinel, .data], laidTests := true, laidLooks := .later }
def SlotsBytesCardSaid : Prop := Claim7.holds Tryd.pinned (.plain (OpenSpec.ofChange slotsBytesSpec)) slotsBytesCard

/-- THE TIED CARD OF 'quoratelaw07.SlotsLast'. -/
def slotsLastCard : Claim7 := { stood := { row := slotsLastRow, standIns := [], harness := (true, "7b122007dea9332279911b93bf3ba9c4d6cad02b412cf8a65ed72cae77b969c1"), looks := true }, kinds := [], alts := [], laidByText := true, laidKinds := [.sentinel, .sentinel, .sentinel, .sentinel, .sentinel, .sentinel, .sentinel, .sentinel, .sentinel, .sentinel, .sentinel, .sentinel, .sentinel, .sentinel, .sentinel, .sentinel, .sentinel, .sentinel, .data], laidTests := true, laidLooks := .later }
def SlotsLastCardSaid : Prop := Claim7.holds Tryd.pinned (.plain (OpenSpec.ofChange slotsLastSpec)) slotsLastCard

/-- THE TIED CARD OF 'quoratelaw07.SlotsRanges'. -/
def slotsRangesCard : Claim7 := { stood := { row := slotsRangesRow, standIns := [], harness := (true, "7b122007dea9332279911b93bf3ba9c4d6cad02b412cf8a65ed72cae77b969c1"), looks := true }, kinds := [], alts := [], laidByText := true, laidKinds := [.sentinel, .sentinel, .sentinel, .sentinel, .sentinel, .sentinel, .sentinel, .sentinel, .sentinel, .sentinel, .sentinel, .sentinel, .sentinel, .sentinel, .sentinel, .sentinel, .sentinel, .sentinel, .data], laidTests := true, laidLooks := .later }
def SlotsRangesCardSaid : Prop := Claim7.holds Tryd.pinned (.plain (OpenSpec.ofChange slotsRangesSpec)) slotsRangesCard

/-- THE TIED CARD OF 'quoratelaw07.SlotsPlays'. -/
def slotsPlaysCard : Claim7 := { stood := { row := slotsPlaysRow, standIns := [], harness := (true, "7b122007dea9332279911b93bf3ba9c4d6cad02b412cf8a65ed72cae77b969c1"), looks := true }, kinds := [], alts := [], laidByText := true, laidKinds := [.sentinel, .sentinel, .sentinel, .sentinel, .sentinel, .sentinel, .sentinel, .sentinel, .sentinel, .sentinel, .sentinel, .sentinel, .sentinel, .sentinel, .sentinel, .sentinel, .sentinel, .sentinel, .data], laidTests := true, laidLooks := .later }
def SlotsPlaysCardSaid : Prop := Claim7.holds Tryd.pinned (.plain (OpenSpec.ofChange slotsPlaysSpec)) slotsPlaysCard

/-- THE SECOND FORM's CARD OF 'quoratelaw07.SlotsElder'. -/
def slotsElderUptoCard : Claim7 := { stood := { row := slotsElderUptoRow, standIns := [], harness := (true, "7b122007dea9332279911b93bf3ba9c4d6cad02b412cf8a65ed72cae77b969c1"), looks := true }, kinds := [], alts := [], laidByText := true, laidKinds := [.sentinel, .sentinel, .sentinel, .sentinel, .data], laidTests := true, laidLooks := .later }
def SlotsElderUptoCardSaid : Prop := Claim7.holds Tryd.pinned (.plain (OpenSpec.upto slotsElderSpec)) slotsElderUptoCard

/-- THE SECOND FORM's CARD OF 'quoratelaw07.SlotsOdd'. -/
def slotsOddUptoCard : Claim7 := { stood := { row := slotsOddUptoRow, standIns := [], harness := (true, "7b122007dea9332279911b93bf3ba9c4d6cad02b412cf8a65ed72cae77b969c1"), looks := true }, kinds := [], alts := [], laidByText := true, laidKinds := [.sentinel, .sentinel, .sentinel, .sentinel, .data], laidTests := true, laidLooks := .later }
def SlotsOddUptoCardSaid : Prop := Claim7.holds Tryd.pinned (.plain (OpenSpec.upto slotsOddSpec)) slotsOddUptoCard

/-- THE SECOND FORM's CARD OF 'quoratelaw07.SlotsBytes'. -/
def slotsBytesUptoCard : Claim7 := { stood := { row := slotsBytesUptoRow, standIns := [], harness := (true, "7b122007dea9332279911b93bf3ba9c4d6cad02b412cf8a65ed72cae77b969c1"), looks := true }, kinds := [], alts := [], laidByText := true, laidKinds := [.sentinel, .sentinel, .sentinel, .sentinel, .sentinel, .sentinel, .sentinel, .sentinel, .sentinel, .sentinel, .sentinel, .sentinel, .sentinel, .sentinel, .sentinel, .sentinel, .sentinel, .sentinel, .data], laidTests := true, laidLooks := .later }
def SlotsBytesUptoCardSaid : Prop := Claim7.holds Tryd.pinned (.plain (OpenSpec.upto slotsBytesSpec)) slotsBytesUptoCard

/-- THE SECOND FORM's CARD OF 'quoratelaw07.SlotsLast'. -/
def slotsLastUptoCard : Claim7 := { stood := { row := slotsLastUptoRow, standIns := [], harness := (true, "7b122007dea9332279911b93bf3ba9c4d6cad02b412cf8a65ed72cae77b969c1"), looks := true }, kinds := [], alts := [], laidByText := true, laidKinds := [.sentinel, .sentinel, .sentinel, .sentinel, .sentinel, .sentinel, .sentinel, .sentinel, .sentinel, .sentinel, .sentinel, .sentinel, .sentinel, .sentinel, .sentinel, .sentinel, .sentinel, .sentinel, .data], laidTests := true, laidLooks := .later }
def SlotsLastUptoCardSaid : Prop := Claim7.holds Tryd.pinned (.plain (OpenSpec.upto slotsLastSpec)) slotsLastUptoCard

/-- THE SECOND FORM's CARD OF 'quoratelaw07.SlotsRanges'. -/
def slotsRangesUptoCard : Claim7 := { stood := { row := slotsRangesUptoRow, standIns := [], harness := (true, "7b122007dea9332279911b93bf3ba9c4d6cad02b412cf8a65ed72cae77b969c1"), looks := true }, kinds := [], alts := [], laidByText := true, laidKinds := [.sentinel, .sentinel, .sentinel, .sentinel, .sentinel, .sentinel, .sentinel, .sentinel, .sentinel, .sentinel, .sentinel, .sentinel, .sentinel, .sentinel, .sentinel, .sentinel, .sentinel, .sentinel, .data], laidTests := true, laidLooks := .later }
def SlotsRangesUptoCardSaid : Prop := Claim7.holds Tryd.pinned (.plain (OpenSpec.upto slotsRangesSpec)) slotsRangesUptoCard

/-- THE SECOND FORM's CARD OF 'quoratelaw07.SlotsPlays'. -/
def slotsPlaysUptoCard : Claim7 := { stood := { row := slotsPlaysUptoRow, standIns := [], harness := (true, "7b122007dea9332279911b93bf3ba9c4d6cad02b412cf8a65ed72cae77b969c1"), looks := true }, kinds := [], alts := [], laidByText := true, laidKinds := [.sentinel, .sentinel, .sentinel, .sentinel, .sentinel, .sentinel, .sentinel, .sentinel, .sentinel, .sentinel, .sentinel, .sentinel, .sentinel, .sentinel, .sentinel, .sentinel, .sentinel, .sentinel, .data], laidTests := true, laidLooks := .later }
def SlotsPlaysUptoCardSaid : Prop := Claim7.holds Tryd.pinned (.plain (OpenSpec.upto slotsPlaysSpec)) slotsPlaysUptoCard
end Rows
end Go.Proofs.YtffkjjakceojfaaDoor
