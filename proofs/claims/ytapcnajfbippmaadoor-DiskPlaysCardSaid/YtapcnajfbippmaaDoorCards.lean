/-
  DERIVED. GIVEN WITH THE SEED: THE CARDS: each row of YtapcnajfbippmaaDoorRows.lean that lists a variable, with what it lists TIED to the program's text (the seventh form; the later family's looks); each row that meets fmt, with fmt's text TOLD by the authors' own Lean function (tested against real Go, not proved from fmt's source: count such statements apart). THE CARD IS WHAT COUNTS. Prove the row's statement (the work); the ties are given (YtapcnajfbippmaaDoorTie.lean); close each card by the builder's one call (the guide's Derived/Test/ToyasCard.lean, 'card_holds'). Laid BY PROGRAM, IN A SANDBOX (cutbox-door.mjs). By AI agents, Wed Nov 11 2026. No macro, syntax, notation, axiom, sorry.
-/
import Derived.Test.YtapcnajfbippmaaDoorRows
import GoSem.ClaimSeven
namespace Go.Proofs.YtapcnajfbippmaaDoor
namespace Rows

/-- THE TIED CARD OF 'quoratelaw06.DiskKeeps'. -/
def diskKeepsCard : Claim7 := { stood := { row := diskKeepsRow, standIns := [], harness := (true, "c3a82b50b27cfbaa7fd81c8703932d2978fa0a26edb96ba667f885dc9deda2fe"), looks := true }, kinds := [], alts := [], laidByText := true, laidKinds := [.sentinel, .sentinel], laidTests := true, laidLooks := .later }
def DiskKeepsCardSaid : Prop := Claim7.holds Tryd.pinned (.plain (OpenSpec.ofChange diskKeepsSpec)) diskKeepsCard

/-- THE TIED CARD OF 'quoratelaw06.DiskLast'. -/
def diskLastCard : Claim7 := { stood := { row := diskLastRow, standIns := [], harness := (true, "c3a82b50b27cfbaa7fd81c8703932d2978fa0a26edb96ba667f885dc9deda2fe"), looks := true }, kinds := [], alts := [], laidByText := true, laidKinds := [.sentinel, .sentinel], laidTests := true, laidLooks := .later }
def DiskLastCardSaid : Prop := Claim7.holds Tryd.pinned (.plain (OpenSpec.ofChange diskLastSpec)) diskLastCard

/-- THE TIED CARD OF 'quoratelaw06.DiskAsks'. -/
def diskAsksCard : Claim7 := { stood := { row := diskAsksRow, standIns := [], harness := (true, "c3a82b50b27cfbaa7fd81c8703932d2978fa0a26edb96ba667f885dc9deda2fe"), looks := true }, kinds := [], alts := [], laidByText := true, laidKinds := [.sentinel, .sentinel], laidTests := true, laidLooks := .later }
def DiskAsksCardSaid : Prop := Claim7.holds Tryd.pinned (.plain (OpenSpec.ofChange diskAsksSpec)) diskAsksCard

/-- THE TIED CARD OF 'quoratelaw06.DiskPower'. -/
def diskPowerCard : Claim7 := { stood := { row := diskPowerRow, standIns := [], harness := (true, "c3a82b50b27cfbaa7fd81c8703932d2978fa0a26edb96ba667f885dc9deda2fe"), looks := true }, kinds := [], alts := [], laidByText := true, laidKinds := [.sentinel, .sentinel, .sentinel, .sentinel, .sentinel, .sentinel, .sentinel, .sentinel, .sentinel, .sentinel, .sentinel, .sentinel, .sentinel, .sentinel, .sentinel, .sentinel, .sentinel, .sentinel], laidTests := true, laidLooks := .later }
def DiskPowerCardSaid : Prop := Claim7.holds Tryd.pinned (.plain (OpenSpec.ofChange diskPowerSpec)) diskPowerCard

/-- THE TIED CARD OF 'quoratelaw06.DiskPlays'. -/
def diskPlaysCard : Claim7 := { stood := { row := diskPlaysRow, standIns := [], harness := (true, "c3a82b50b27cfbaa7fd81c8703932d2978fa0a26edb96ba667f885dc9deda2fe"), looks := true }, kinds := [], alts := [], laidByText := true, laidKinds := [.sentinel, .sentinel, .sentinel, .sentinel, .sentinel, .sentinel, .sentinel, .sentinel, .sentinel, .sentinel, .sentinel, .sentinel, .sentinel, .sentinel, .sentinel, .sentinel, .sentinel, .sentinel], laidTests := true, laidLooks := .later }
def DiskPlaysCardSaid : Prop := Claim7.holds Tryd.pinned (.plain (OpenSpec.ofChange diskPlaysSpec)) diskPlaysCard

/-- THE SECOND FORM's CARD OF 'quoratelaw06.DiskKeeps'. -/
def diskKeepsUptoCard : Claim7 := { stood := { row := diskKeepsUptoRow, standIns := [], harness := (true, "c3a82b50b27cfbaa7fd81c8703932d2978fa0a26edb96ba667f885dc9deda2fe"), looks := true }, kinds := [], alts := [], laidByText := true, laidKinds := [.sentinel, .sentinel], laidTests := true, laidLooks := .later }
def DiskKeepsUptoCardSaid : Prop := Claim7.holds Tryd.pinned (.plain (OpenSpec.upto diskKeepsSpec)) diskKeepsUptoCard

/-- THE SECOND FORM's CARD OF 'quoratelaw06.DiskLast'. -/
def diskLastUptoCard : Claim7 := { stood := { row := diskLastUptoRow, standIns := [], harness := (true, "c3a82b50b27cfbaa7fd81c8703932d2978fa0a26edb96ba667f885dc9deda2fe"), looks := true }, kinds := [], alts := [], laidByText := true, laidKinds := [.sentinel, .sentinel], laidTests := true, laidLooks := .later }
def DiskLastUptoCardSaid : Prop := Claim7.holds Tryd.pinned (.plain (OpenSpec.upto diskLastSpec)) diskLastUptoCard

/-- THE SECOND FORM's CARD OF 'quoratelaw06.DiskAsks'. -/
def diskAsksUptoCard : Claim7 := { stood := { row := diskAsksUptoRow, standIns := [], harness := (true, "c3a82b50b27cfbaa7fd81c8703932d2978fa0a26edb96ba667f885dc9deda2fe"), looks := true }, kinds := [], alts := [], laidByText := true, laidKinds := [.sentinel, .sentinel], laidTests := true, laidLooks := .later }
def DiskAsksUptoCardSaid : Prop := Claim7.holds Tryd.pinned (.plain (OpenSpec.upto diskAsksSpec)) diskAsksUptoCard

/-- THE SECOND FORM's CARD OF 'quoratelaw06.DiskPower'. -/
def diskPowerUptoCard : Claim7 := { stood := { row := diskPowerUptoRow, standIns := [], harness := (true, "c3a82b50b27cfbaa7fd81c8703932d2978fa0a26edb96ba667f885dc9deda2fe"), looks := true }, kinds := [], alts := [], laidByText := true, laidKinds := [.sentinel, .sentinel, .sentinel, .sentinel, .sentinel, .sentinel, .sentinel, .sentinel, .sentinel, .sentinel, .sentinel, .sentinel, .sentinel, .sentinel, .sentinel, .sentinel, .sentinel, .sentinel], laidTests := true, laidLooks := .later }
def DiskPowerUptoCardSaid : Prop := Claim7.holds Tryd.pinned (.plain (OpenSpec.upto diskPowerSpec)) diskPowerUptoCard

/-- THE SECOND FORM's CARD OF 'quoratelaw06.DiskPlays'. -/
def diskPlaysUptoCard : Claim7 := { stood := { row := diskPlaysUptoRow, standIns := [], harness := (true, "c3a82b50b27cfbaa7fd81c8703932d2978fa0a26edb96ba667f885dc9deda2fe"), looks := true }, kinds := [], alts := [], laidByText := true, laidKinds := [.sentinel, .sentinel, .sentinel, .sentinel, .sentinel, .sentinel, .sentinel, .sentinel, .sentinel, .sentinel, .sentinel, .sentinel, .sentinel, .sentinel, .sentinel, .sentinel, .sentinel, .sentinel], laidTests := true, laidLooks := .later }
def DiskPlaysUptoCardSaid : Prop := Claim7.holds Tryd.pinned (.plain (OpenSpec.upto diskPlaysSpec)) diskPlaysUptoCard
end Rows
end Go.Proofs.YtapcnajfbippmaaDoor
