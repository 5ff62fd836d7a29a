/-
  DERIVED. GIVEN WITH THE SEED: THE CARDS: each row of YtobjojeliibinaaGreatDoorRows.lean that lists a variable, with what it lists TIED to the program's text (the seventh form; the later family's looks); each row that meets fmt, with fmt's text TOLD by the authors' own Lean function (tested against real Go, not proved from fmt's source: count such statements apart). THE CARD IS WHAT COUNTS. Prove the row's statement (the work); the ties are given (YtobjojeliibinaaGreatDoorTie.lean); close each card by the builder's one call (the guide's Derived/Test/ToyasCard.lean, 'card_holds'). Laid BY PROGRAM, IN A SANDBOX (cutbox-door.mjs). By AI agents, Wed Nov 11 2026. No macro, syntax, notation, axiom, sorry.
-/
import Derived.Test.YtobjojeliibinaaGreatDoorRows
import GoSem.ClaimSeven
namespace Go.Proofs.YtobjojeliibinaaGreatDoor
namespace Rows

/-- THE TIED CARD OF 'quoratelaw15.BlocksRoots'. -/
def blocksRootsCard : Claim7 := { stood := { row := blocksRootsRow, standIns := [], harness := (true, "52391b0812c56b96e381a6027fb7a0c389513a40252f9762540ffb70e05fa23d"), looks := true }, kinds := [], alts := [], laidByText := true, laidKinds := [.sentinel, .sentinel, .sentinel, .sentinel, .sentinel, .sentinel, .sentinel, .sentinel, .sentinel, .sentinel, .sentinel, .sentinel, .sentinel, .sentinel, .sentinel, .sentinel, .sentinel, .sentinel, .data], laidTests := true, laidLooks := .later }
def BlocksRootsCardSaid : Prop := Claim7.holds Tryz.pinned (.plain (OpenSpec.ofChange blocksRootsSpec)) blocksRootsCard

/-- THE TIED CARD OF 'quoratelaw19.FetchLines'. -/
def fetchLinesCard : Claim7 := { stood := { row := fetchLinesRow, standIns := [], harness := (true, "52391b0812c56b96e381a6027fb7a0c389513a40252f9762540ffb70e05fa23d"), looks := true }, kinds := [], alts := [], laidByText := true, laidKinds := [.sentinel, .sentinel, .sentinel, .sentinel, .sentinel, .sentinel, .sentinel, .sentinel, .sentinel, .sentinel, .sentinel, .data], laidTests := true, laidLooks := .later }
def FetchLinesCardSaid : Prop := Claim7.holds Tryz.pinned (.plain (OpenSpec.ofChange fetchLinesSpec)) fetchLinesCard

/-- THE TIED CARD OF 'quoratelaw19.FetchRows'. -/
def fetchRowsCard : Claim7 := { stood := { row := fetchRowsRow, standIns := [], harness := (true, "52391b0812c56b96e381a6027fb7a0c389513a40252f9762540ffb70e05fa23d"), looks := true }, kinds := [], alts := [], laidByText := true, laidKinds := [.sentinel, .sentinel, .sentinel, .sentinel, .sentinel, .sentinel, .sentinel, .sentinel, .sentinel, .sentinel, .sentinel, .data], laidTests := true, laidLooks := .later }
def FetchRowsCardSaid : Prop := Claim7.holds Tryz.pinned (.plain (OpenSpec.ofChange fetchRowsSpec)) fetchRowsCard

/-- THE TIED CARD OF 'quoratelaw19.FetchLast'. -/
def fetchLastCard : Claim7 := { stood := { row := fetchLastRow, standIns := [], harness := (true, "52391b0812c56b96e381a6027fb7a0c389513a40252f9762540ffb70e05fa23d"), looks := true }, kinds := [], alts := [], laidByText := true, laidKinds := [.sentinel, .sentinel, .sentinel, .sentinel, .sentinel, .sentinel, .sentinel, .sentinel, .sentinel, .sentinel, .sentinel, .data], laidTests := true, laidLooks := .later }
def FetchLastCardSaid : Prop := Claim7.holds Tryz.pinned (.plain (OpenSpec.ofChange fetchLastSpec)) fetchLastCard

/-- THE TIED CARD OF 'quoratelaw19.FetchAsks'. -/
def fetchAsksCard : Claim7 := { stood := { row := fetchAsksRow, standIns := [], harness := (true, "52391b0812c56b96e381a6027fb7a0c389513a40252f9762540ffb70e05fa23d"), looks := true }, kinds := [], alts := [], laidByText := true, laidKinds := [.sentinel, .sentinel, .sentinel, .sentinel, .sentinel, .sentinel, .sentinel, .sentinel, .sentinel, .sentinel, .sentinel, .data], laidTests := true, laidLooks := .later }
def FetchAsksCardSaid : Prop := Claim7.holds Tryz.pinned (.plain (OpenSpec.ofChange fetchAsksSpec)) fetchAsksCard

/-- THE TIED CARD OF 'quoratelaw19.FetchPatience'. -/
def fetchPatienceCard : Claim7 := { stood := { row := fetchPatienceRow, standIns := [], harness := (true, "52391b0812c56b96e381a6027fb7a0c389513a40252f9762540ffb70e05fa23d"), looks := true }, kinds := [], alts := [], laidByText := true, laidKinds := [.sentinel, .sentinel, .sentinel, .sentinel, .sentinel, .sentinel, .sentinel, .sentinel, .sentinel, .sentinel, .sentinel, .data], laidTests := true, laidLooks := .later }
def FetchPatienceCardSaid : Prop := Claim7.holds Tryz.pinned (.plain (OpenSpec.ofChange fetchPatienceSpec)) fetchPatienceCard

/-- THE TIED CARD OF 'quoratelaw18.LedgerFull'. -/
def ledgerFullCard : Claim7 := { stood := { row := ledgerFullRow, standIns := [], harness := (true, "52391b0812c56b96e381a6027fb7a0c389513a40252f9762540ffb70e05fa23d"), looks := true }, kinds := [], alts := [], laidByText := true, laidKinds := [.sentinel, .sentinel, .sentinel, .sentinel, .sentinel, .sentinel, .sentinel, .sentinel, .sentinel, .sentinel, .sentinel, .sentinel, .sentinel, .sentinel, .sentinel, .sentinel, .sentinel, .sentinel, .data], laidTests := true, laidLooks := .later }
def LedgerFullCardSaid : Prop := Claim7.holds Tryz.pinned (.plain (OpenSpec.ofChange ledgerFullSpec)) ledgerFullCard

/-- THE TIED CARD OF 'quoratelaw18.LedgerBytes'. -/
def ledgerBytesCard : Claim7 := { stood := { row := ledgerBytesRow, standIns := [], harness := (true, "52391b0812c56b96e381a6027fb7a0c389513a40252f9762540ffb70e05fa23d"), looks := true }, kinds := [], alts := [], laidByText := true, laidKinds := [.sentinel, .sentinel, .sentinel, .sentinel, .sentinel, .sentinel, .sentinel, .sentinel, .sentinel, .sentinel, .sentinel, .sentinel, .sentinel, .sentinel, .sentinel, .sentinel, .sentinel, .sentinel, .data], laidTests := true, laidLooks := .later }
def LedgerBytesCardSaid : Prop := Claim7.holds Tryz.pinned (.plain (OpenSpec.ofChange ledgerBytesSpec)) ledgerBytesCard

/-- THE TIED CARD OF 'quoratelaw18.LedgerAgain'. -/
def ledgerAgainCard : Claim7 := { stood := { row := ledgerAgainRow, standIns := [], harness := (true, "52391b0812c56b96e381a6027fb7a0c389513a40252f9762540ffb70e05fa23d"), looks := true }, kinds := [], alts := [], laidByText := true, laidKinds := [.sentinel, .sentinel, .sentinel, .sentinel, .sentinel, .sentinel, .sentinel, .sentinel, .sentinel, .sentinel, .sentinel, .sentinel, .sentinel, .sentinel, .sentinel, .sentinel, .sentinel, .sentinel, .data], laidTests := true, laidLooks := .later }
def LedgerAgainCardSaid : Prop := Claim7.holds Tryz.pinned (.plain (OpenSpec.ofChange ledgerAgainSpec)) ledgerAgainCard

/-- THE TIED CARD OF 'quoratelaw18.LedgerSome'. -/
def ledgerSomeCard : Claim7 := { stood := { row := ledgerSomeRow, standIns := [], harness := (true, "52391b0812c56b96e381a6027fb7a0c389513a40252f9762540ffb70e05fa23d"), looks := true }, kinds := [], alts := [], laidByText := true, laidKinds := [.sentinel, .sentinel, .sentinel, .sentinel, .sentinel, .sentinel, .sentinel, .sentinel, .sentinel, .sentinel, .sentinel, .sentinel, .sentinel, .sentinel, .sentinel, .sentinel, .sentinel, .sentinel, .data], laidTests := true, laidLooks := .later }
def LedgerSomeCardSaid : Prop := Claim7.holds Tryz.pinned (.plain (OpenSpec.ofChange ledgerSomeSpec)) ledgerSomeCard

/-- THE TIED CARD OF 'quoratelaw18.LedgerPlays'. -/
def ledgerPlaysCard : Claim7 := { stood := { row := ledgerPlaysRow, standIns := [], harness := (true, "52391b0812c56b96e381a6027fb7a0c389513a40252f9762540ffb70e05fa23d"), looks := true }, kinds := [], alts := [], laidByText := true, laidKinds := [.sentinel, .sentinel, .sentinel, .sentinel, .sentinel, .sentinel, .sentinel, .sentinel, .sentinel, .sentinel, .sentinel, .sentinel, .sentinel, .sentinel, .sentinel, .sentinel, .sentinel, .sentinel, .data], laidTests := true, laidLooks := .later }
def LedgerPlaysCardSaid : Prop := Claim7.holds Tryz.pinned (.plain (OpenSpec.ofChange ledgerPlaysSpec)) ledgerPlaysCard

/-- THE SECOND FORM's CARD OF 'quoratelaw15.BlocksRoots'. -/
def blocksRootsUptoCard : Claim7 := { stood := { row := blocksRootsUptoRow, standIns := [], harness := (true, "52391b0812c56b96e381a6027fb7a0c389513a40252f9762540ffb70e05fa23d"), looks := true }, kinds := [], alts := [], laidByText := true, laidKinds := [.sentinel, .sentinel, .sentinel, .sentinel, .sentinel, .sentinel, .sentinel, .sentinel, .sentinel, .sentinel, .sentinel, .sentinel, .sentinel, .sentinel, .sentinel, .sentinel, .sentinel, .sentinel, .data], laidTests := true, laidLooks := .later }
def BlocksRootsUptoCardSaid : Prop := Claim7.holds Tryz.pinned (.plain (OpenSpec.upto blocksRootsSpec)) blocksRootsUptoCard

/-- THE SECOND FORM's CARD OF 'quoratelaw19.FetchLines'. -/
def fetchLinesUptoCard : Claim7 := { stood := { row := fetchLinesUptoRow, standIns := [], harness := (true, "52391b0812c56b96e381a6027fb7a0c389513a40252f9762540ffb70e05fa23d"), looks := true }, kinds := [], alts := [], laidByText := true, laidKinds := [.sentinel, .sentinel, .sentinel, .sentinel, .sentinel, .sentinel, .sentinel, .sentinel, .sentinel, .sentinel, .sentinel, .data], laidTests := true, laidLooks := .later }
def FetchLinesUptoCardSaid : Prop := Claim7.holds Tryz.pinned (.plain (OpenSpec.upto fetchLinesSpec)) fetchLinesUptoCard

/-- THE SECOND FORM's CARD OF 'quoratelaw19.FetchRows'. -/
def fetchRowsUptoCard : Claim7 := { stood := { row := fetchRowsUptoRow, standIns := [], harness := (true, "52391b0812c56b96e381a6027fb7a0c389513a40252f9762540ffb70e05fa23d"), looks := true }, kinds := [], alts := [], laidByText := true, laidKinds := [.sentinel, .sentinel, .sentinel, .sentinel, .sentinel, .sentinel, .sentinel, .sentinel, .sentinel, .sentinel, .sentinel, .data], laidTests := true, laidLooks := .later }
def FetchRowsUptoCardSaid : Prop := Claim7.holds Tryz.pinned (.plain (OpenSpec.upto fetchRowsSpec)) fetchRowsUptoCard

/-- THE SECOND FORM's CARD OF 'quoratelaw19.FetchLast'. -/
def fetchLastUptoCard : Claim7 := { stood := { row := fetchLastUptoRow, standIns := [], harness := (true, "52391b0812c56b96e381a6027fb7a0c389513a40252f9762540ffb70e05fa23d"), looks := true }, kinds := [], alts := [], laidByText := true, laidKinds := [.sentinel, .sentinel, .sentinel, .sentinel, .sentinel, .sentinel, .sentinel, .sentinel, .sentinel, .sentinel, .sentinel, .data], laidTests := true, laidLooks := .later }
def FetchLastUptoCardSaid : Prop := Claim7.holds Tryz.pinned (.plain (OpenSpec.upto fetchLastSpec)) fetchLastUptoCard

/-- THE SECOND FORM's CARD OF 'quoratelaw19.FetchAsks'. -/
def fetchAsksUptoCard : Claim7 := { stood := { row := fetchAsksUptoRow, standIns := [], harness := (true, "52391b0812c56b96e381a6027fb7a0c389513a40252f9762540ffb70e05fa23d"), looks := true }, kinds := [], alts := [], laidByText := true, laidKinds := [.sentinel, .sentinel, .sentinel, .sentinel, .sentinel, .sentinel, .sentinel, .sentinel, .sentinel, .sentinel, .sentinel, .data], laidTests := true, laidLooks := .later }
def FetchAsksUptoCardSaid : Prop := Claim7.holds Tryz.pinned (.plain (OpenSpec.upto fetchAsksSpec)) fetchAsksUptoCard

/-- THE SECOND FORM's CARD OF 'quoratelaw19.FetchPatience'. -/
def fetchPatienceUptoCard : Claim7 := { stood := { row := fetchPatienceUptoRow, standIns := [], harness := (true, "52391b0812c56b96e381a6027fb7a0c389513a40252f9762540ffb70e05fa23d"), looks := true }, kinds := [], alts := [], laidByText := true, laidKinds := [.sentinel, .sentinel, .sentinel, .sentinel, .sentinel, .sentinel, .sentinel, .sentinel, .sentinel, .sentinel, .sentinel, .data], laidTests := true, laidLooks := .later }
def FetchPatienceUptoCardSaid : Prop := Claim7.holds Tryz.pinned (.plain (OpenSpec.upto fetchPatienceSpec)) fetchPatienceUptoCard

/-- THE SECOND FORM's CARD OF 'quoratelaw18.LedgerFull'. -/
def ledgerFullUptoCard : Claim7 := { stood := { row := ledgerFullUptoRow, standIns := [], harness := (true, "52391b0812c56b96e381a6027fb7a0c389513a40252f9762540ffb70e05fa23d"), looks := true }, kinds := [], alts := [], laidByText := true, laidKinds := [.sentinel, .sentinel, .sentinel, .sentinel, .sentinel, .sentinel, .sentinel, .sentinel, .sentinel, .sentinel, .sentinel, .sentinel, .sentinel, .sentinel, .sentinel, .sentinel, .sentinel, .sentinel, .data], laidTests := true, laidLooks := .later }
def LedgerFullUptoCardSaid : Prop := Claim7.holds Tryz.pinned (.plain (OpenSpec.upto ledgerFullSpec)) ledgerFullUptoCard

/-- THE SECOND FORM's CARD OF 'quoratelaw18.LedgerBytes'. -/
def ledgerBytesUptoCard : Claim7 := { stood := { row := ledgerBytesUptoRow, standIns := [], harness := (true, "52391b0812c56b96e381a6027fb7a0c389513a40252f9762540ffb70e05fa23d"), looks := true }, kinds := [], alts := [], laidByText := true, laidKinds := [.sentinel, .sentinel, .sentinel, .sentinel, .sentinel, .sentinel, .sentinel, .sentinel, .sentinel, .sentinel, .sentinel, .sentinel, .sentinel, .sentinel, .sentinel, .sentinel, .sentinel, .sentinel, .data], laidTests := true, laidLooks := .later }
def LedgerBytesUptoCardSaid : Prop := Claim7.holds Tryz.pinned (.plain (OpenSpec.upto ledgerBytesSpec)) ledgerBytesUptoCard

/-- THE SECOND FORM's CARD OF 'quoratelaw18.LedgerAgain'. -/
def ledgerAgainUptoCard : Claim7 := { stood := { row := ledgerAgainUptoRow, standIns := [], harness := (true, "52391b0812c56b96e381a6027fb7a0c389513a40252f9762540ffb70e05fa23d"), looks := true }, kinds := [], alts := [], laidByText := true, laidKinds := [.sentinel, .sentinel, .sentinel, .sentinel, .sentinel, .sentinel, .sentinel, .sentinel, .sentinel, .sentinel, .sentinel, .sentinel, .sentinel, .sentinel, .sentinel, .sentinel, .sentinel, .sentinel, .data], laidTests := true, laidLooks := .later }
def LedgerAgainUptoCardSaid : Prop := Claim7.holds Tryz.pinned (.plain (OpenSpec.upto ledgerAgainSpec)) ledgerAgainUptoCard

/-- THE SECOND FORM's CARD OF 'quoratelaw18.LedgerSome'. -/
def ledgerSomeUptoCard : Claim7 := { stood := { row := ledgerSomeUptoRow, standIns := [], harness := (true, "52391b0812c56b96e381a6027fb7a0c389513a40252f9762540ffb70e05fa23d"), looks := true }, kinds := [], alts := [], laidByText := true, laidKinds := [.sentinel, .sentinel, .sentinel, .sentinel, .sentinel, .sentinel, .sentinel, .sentinel, .sentinel, .sentinel, .sentinel, .sentinel, .sentinel, .sentinel, .sentinel, .sentinel, .sentinel, .sentinel, .data], laidTests := true, laidLooks := .later }
def LedgerSomeUptoCardSaid : Prop := Claim7.holds Tryz.pinned (.plain (OpenSpec.upto ledgerSomeSpec)) ledgerSomeUptoCard

/-- THE SECOND FORM's CARD OF 'quoratelaw18.LedgerPlays'. -/
def ledgerPlaysUptoCard : Claim7 := { stood := { row := ledgerPlaysUptoRow, standIns := [], harness := (true, "52391b0812c56b96e381a6027fb7a0c389513a40252f9762540ffb70e05fa23d"), looks := true }, kinds := [], alts := [], laidByText := true, laidKinds := [.sentinel, .sentinel, .sentinel, .sentinel, .sentinel, .sentinel, .sentinel, .sentinel, .sentinel, .sentinel, .sentinel, .sentinel, .sentinel, .sentinel, .sentinel, .sentinel, .sentinel, .sentinel, .data], laidTests := true, laidLooks := .later }
def LedgerPlaysUptoCardSaid : Prop := Claim7.holds Tryz.pinned (.plain (OpenSpec.upto ledgerPlaysSpec)) ledgerPlaysUptoCard
end Rows
end Go.Proofs.YtobjojeliibinaaGreatDoor
