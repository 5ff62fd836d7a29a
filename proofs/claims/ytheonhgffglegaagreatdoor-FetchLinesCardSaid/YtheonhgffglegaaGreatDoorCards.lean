/-
  DERIVED. GIVEN WITH THE SEED: THE CARDS: each row of YtheonhgffglegaaGreatDoorRows.lean that lists a variable, with what it lists TIED to the program's text (the seventh form; the later family's looks); each row that meets fmt, with fmt's text TOLD by the authors' own Lean function (tested against real Go, not proved from fmt's source: count such statements apart). THE CARD IS WHAT COUNTS. Prove the row's statement (the work); the ties are given (YtheonhgffglegaaGreatDoorTie.lean); close each card by the builder's one call (the guide's Derived/Test/ToyasCard.lean, 'card_holds'). Laid BY PROGRAM, IN A SANDBOX (cutbox-door.mjs). By AI agents, Wed Nov 11 2026. No macro, syntax, notation, axiom, sorry.
-/
import Derived.Test.YtheonhgffglegaaGreatDoorRows
import GoSem.ClaimSeven
namespace Go.Proofs.YtheonhgffglegaaGreatDoor
namespace Rows

/-- THE TIED CARD OF 'quoratelaw19.FetchLines'. -/
def fetchLinesCard : Claim7 := { stood := { row := fetchLinesRow, standIns := [], harness := (true, "b9ceb38b32224977ef653fb281dbe9dd7c8c4d951d4cfb1d63a5ae2a684ee790"), looks := false }, kinds := [], alts := [], laidByText := true, laidKinds := [.sentinel, .sentinel, .sentinel, .sentinel, .sentinel, .sentinel, .sentinel, .sentinel, .sentinel, .sentinel, .sentinel, .data], laidTests := true, laidLooks := .later }
def FetchLinesCardSaid : Prop := Claim7.holds Tryz.pinned (.plain (OpenSpec.ofChange fetchLinesSpec)) fetchLinesCard

/-- THE TIED CARD OF 'quoratelaw19.FetchRows'. -/
def fetchRowsCard : Claim7 := { stood := { row := fetchRowsRow, standIns := [], harness := (true, "b9ceb38b32224977ef653fb281dbe9dd7c8c4d951d4cfb1d63a5ae2a684ee790"), looks := false }, kinds := [], alts := [], laidByText := true, laidKinds := [.sentinel, .sentinel, .sentinel, .sentinel, .sentinel, .sentinel, .sentinel, .sentinel, .sentinel, .sentinel, .sentinel, .data], laidTests := true, laidLooks := .later }
def FetchRowsCardSaid : Prop := Claim7.holds Tryz.pinned (.plain (OpenSpec.ofChange fetchRowsSpec)) fetchRowsCard

/-- THE TIED CARD OF 'quoratelaw19.FetchLast'. -/
def fetchLastCard : Claim7 := { stood := { row := fetchLastRow, standIns := [], harness := (true, "b9ceb38b32224977ef653fb281dbe9dd7c8c4d951d4cfb1d63a5ae2a684ee790"), looks := false }, kinds := [], alts := [], laidByText := true, laidKinds := [.sentinel, .sentinel, .sentinel, .sentinel, .sentinel, .sentinel, .sentinel, .sentinel, .sentinel, .sentinel, .sentinel, .data], laidTests := true, laidLooks := .later }
def FetchLastCardSaid : Prop := Claim7.holds Tryz.pinned (.plain (OpenSpec.ofChange fetchLastSpec)) fetchLastCard

/-- THE TIED CARD OF 'quoratelaw19.FetchAsks'. -/
def fetchAsksCard : Claim7 := { stood := { row := fetchAsksRow, standIns := [], harness := (true, "b9ceb38b32224977ef653fb281dbe9dd7c8c4d951d4cfb1d63a5ae2a684ee790"), looks := false }, kinds := [], alts := [], laidByText := true, laidKinds := [.sentinel, .sentinel, .sentinel, .sentinel, .sentinel, .sentinel, .sentinel, .sentinel, .sentinel, .sentinel, .sentinel, .data], laidTests := true, laidLooks := .later }
def FetchAsksCardSaid : Prop := Claim7.holds Tryz.pinned (.plain (OpenSpec.ofChange fetchAsksSpec)) fetchAsksCard

/-- THE TIED CARD OF 'quoratelaw19.FetchPatience'. -/
def fetchPatienceCard : Claim7 := { stood := { row := fetchPatienceRow, standIns := [], harness := (true, "b9ceb38b32224977ef653fb281dbe9dd7c8c4d951d4cfb1d63a5ae2a684ee790"), looks := false }, kinds := [], alts := [], laidByText := true, laidKinds := [.sentinel, .sentinel, .sentinel, .sentinel, .sentinel, .sentinel, .sentinel, .sentinel, .sentinel, .sentinel, .sentinel, .data], laidTests := true, laidLooks := .later }
def FetchPatienceCardSaid : Prop := Claim7.holds Tryz.pinned (.plain (OpenSpec.ofChange fetchPatienceSpec)) fetchPatienceCard

/-- THE SECOND FORM's CARD OF 'quoratelaw19.FetchLines'. -/
def fetchLinesUptoCard : Claim7 := { stood := { row := fetchLinesUptoRow, standIns := [], harness := (true, "b9ceb38b32224977ef653fb281dbe9dd7c8c4d951d4cfb1d63a5ae2a684ee790"), looks := false }, kinds := [], alts := [], laidByText := true, laidKinds := [.sentinel, .sentinel, .sentinel, .sentinel, .sentinel, .sentinel, .sentinel, .sentinel, .sentinel, .sentinel, .sentinel, .data], laidTests := true, laidLooks := .later }
def FetchLinesUptoCardSaid : Prop := Claim7.holds Tryz.pinned (.plain (OpenSpec.upto fetchLinesSpec)) fetchLinesUptoCard

/-- THE SECOND FORM's CARD OF 'quoratelaw19.FetchRows'. -/
def fetchRowsUptoCard : Claim7 := { stood := { row := fetchRowsUptoRow, standIns := [], harness := (true, "b9ceb38b32224977ef653fb281dbe9dd7c8c4d951d4cfb1d63a5ae2a684ee790"), looks := false }, kinds := [], alts := [], laidByText := true, laidKinds := [.sentinel, .sentinel, .sentinel, .sentinel, .sentinel, .sentinel, .sentinel, .sentinel, .sentinel, .sentinel, .sentinel, .data], laidTests := true, laidLooks := .later }
def FetchRowsUptoCardSaid : Prop := Claim7.holds Tryz.pinned (.plain (OpenSpec.upto fetchRowsSpec)) fetchRowsUptoCard

/-- THE SECOND FORM's CARD OF 'quoratelaw19.FetchLast'. -/
def fetchLastUptoCard : Claim7 := { stood := { row := fetchLastUptoRow, standIns := [], harness := (true, "b9ceb38b32224977ef653fb281dbe9dd7c8c4d951d4cfb1d63a5ae2a684ee790"), looks := false }, kinds := [], alts := [], laidByText := true, laidKinds := [.sentinel, .sentinel, .sentinel, .sentinel, .sentinel, .sentinel, .sentinel, .sentinel, .sentinel, .sentinel, .sentinel, .data], laidTests := true, laidLooks := .later }
def FetchLastUptoCardSaid : Prop := Claim7.holds Tryz.pinned (.plain (OpenSpec.upto fetchLastSpec)) fetchLastUptoCard

/-- THE SECOND FORM's CARD OF 'quoratelaw19.FetchAsks'. -/
def fetchAsksUptoCard : Claim7 := { stood := { row := fetchAsksUptoRow, standIns := [], harness := (true, "b9ceb38b32224977ef653fb281dbe9dd7c8c4d951d4cfb1d63a5ae2a684ee790"), looks := false }, kinds := [], alts := [], laidByText := true, laidKinds := [.sentinel, .sentinel, .sentinel, .sentinel, .sentinel, .sentinel, .sentinel, .sentinel, .sentinel, .sentinel, .sentinel, .data], laidTests := true, laidLooks := .later }
def FetchAsksUptoCardSaid : Prop := Claim7.holds Tryz.pinned (.plain (OpenSpec.upto fetchAsksSpec)) fetchAsksUptoCard

/-- THE SECOND FORM's CARD OF 'quoratelaw19.FetchPatience'. -/
def fetchPatienceUptoCard : Claim7 := { stood := { row := fetchPatienceUptoRow, standIns := [], harness := (true, "b9ceb38b32224977ef653fb281dbe9dd7c8c4d951d4cfb1d63a5ae2a684ee790"), looks := false }, kinds := [], alts := [], laidByText := true, laidKinds := [.sentinel, .sentinel, .sentinel, .sentinel, .sentinel, .sentinel, .sentinel, .sentinel, .sentinel, .sentinel, .sentinel, .data], laidTests := true, laidLooks := .later }
def FetchPatienceUptoCardSaid : Prop := Claim7.holds Tryz.pinned (.plain (OpenSpec.upto fetchPatienceSpec)) fetchPatienceUptoCard
end Rows
end Go.Proofs.YtheonhgffglegaaGreatDoor
