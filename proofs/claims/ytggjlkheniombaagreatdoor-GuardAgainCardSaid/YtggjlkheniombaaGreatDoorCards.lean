/-
  DERIVED. GIVEN WITH THE SEED: THE CARDS: each row of YtggjlkheniombaaGreatDoorRows.lean that lists a variable, with what it lists TIED to the program's text (the seventh form; the later family's looks); each row that meets fmt, with fmt's text TOLD by the authors' own Lean function (tested against real Go, not proved from fmt's source: count such statements apart). THE CARD IS WHAT COUNTS. Prove the row's statement (the work); the ties are given (YtggjlkheniombaaGreatDoorTie.lean); close each card by the builder's one call (the guide's Derived/Test/ToyasCard.lean, 'card_holds'). Laid BY PROGRAM, IN A SANDBOX (cutbox-door.mjs). By AI agents, Wed Nov 11 2026. No macro, syntax, notation, axiom, sorry.
-/
import Derived.Test.YtggjlkheniombaaGreatDoorRows
import GoSem.ClaimSeven
namespace Go.Proofs.YtggjlkheniombaaGreatDoor
namespace Rows

/-- THE TIED CARD OF 'quoratelaw14.GuardOpens'. -/
def guardOpensCard : Claim7 := { stood := { row := guardOpensRow, standIns := [], harness := (true, "6a19c5df03da1046ec9526fe33662e05d795d329abcee4eea630a0313dcd47f1"), looks := true }, kinds := [], alts := [], laidByText := true, laidKinds := [.sentinel, .sentinel, .sentinel, .sentinel, .sentinel, .sentinel, .sentinel, .sentinel, .sentinel, .sentinel, .sentinel, .sentinel, .sentinel, .sentinel, .sentinel, .sentinel, .sentinel, .sentinel, .data], laidTests := true, laidLooks := .later }
def GuardOpensCardSaid : Prop := Claim7.holds Tryz.pinned (.plain (OpenSpec.ofChange guardOpensSpec)) guardOpensCard

/-- THE TIED CARD OF 'quoratelaw14.GuardEpochs'. -/
def guardEpochsCard : Claim7 := { stood := { row := guardEpochsRow, standIns := [], harness := (true, "6a19c5df03da1046ec9526fe33662e05d795d329abcee4eea630a0313dcd47f1"), looks := true }, kinds := [], alts := [], laidByText := true, laidKinds := [.sentinel, .sentinel, .sentinel, .sentinel, .sentinel, .sentinel, .sentinel, .sentinel, .sentinel, .sentinel, .sentinel, .sentinel, .sentinel, .sentinel, .sentinel, .sentinel, .sentinel, .sentinel, .data], laidTests := true, laidLooks := .later }
def GuardEpochsCardSaid : Prop := Claim7.holds Tryz.pinned (.plain (OpenSpec.ofChange guardEpochsSpec)) guardEpochsCard

/-- THE TIED CARD OF 'quoratelaw14.GuardLeaves'. -/
def guardLeavesCard : Claim7 := { stood := { row := guardLeavesRow, standIns := [], harness := (true, "6a19c5df03da1046ec9526fe33662e05d795d329abcee4eea630a0313dcd47f1"), looks := true }, kinds := [], alts := [], laidByText := true, laidKinds := [.sentinel, .sentinel, .sentinel, .sentinel, .sentinel, .sentinel, .sentinel, .sentinel, .sentinel, .sentinel, .sentinel, .sentinel, .sentinel, .sentinel, .sentinel, .sentinel, .sentinel, .sentinel, .data], laidTests := true, laidLooks := .later }
def GuardLeavesCardSaid : Prop := Claim7.holds Tryz.pinned (.plain (OpenSpec.ofChange guardLeavesSpec)) guardLeavesCard

/-- THE TIED CARD OF 'quoratelaw14.GuardAgain'. -/
def guardAgainCard : Claim7 := { stood := { row := guardAgainRow, standIns := [], harness := (true, "6a19c5df03da1046ec9526fe33662e05d795d329abcee4eea630a0313dcd47f1"), looks := true }, kinds := [], alts := [], laidByText := true, laidKinds := [.sentinel, .sentinel, .sentinel, .sentinel, .sentinel, .sentinel, .sentinel, .sentinel, .sentinel, .sentinel, .sentinel, .sentinel, .sentinel, .sentinel, .sentinel, .sentinel, .sentinel, .sentinel, .data], laidTests := true, laidLooks := .later }
def GuardAgainCardSaid : Prop := Claim7.holds Tryz.pinned (.plain (OpenSpec.ofChange guardAgainSpec)) guardAgainCard

/-- THE TIED CARD OF 'quoratelaw14.GuardPlays'. -/
def guardPlaysCard : Claim7 := { stood := { row := guardPlaysRow, standIns := [], harness := (true, "6a19c5df03da1046ec9526fe33662e05d795d329abcee4eea630a0313dcd47f1"), looks := true }, kinds := [], alts := [], laidByText := true, laidKinds := [.sentinel, .sentinel, .sentinel, .sentinel, .sentinel, .sentinel, .sentinel, .sentinel, .sentinel, .sentinel, .sentinel, .sentinel, .sentinel, .sentinel, .sentinel, .sentinel, .sentinel, .sentinel, .data], laidTests := true, laidLooks := .later }
def GuardPlaysCardSaid : Prop := Claim7.holds Tryz.pinned (.plain (OpenSpec.ofChange guardPlaysSpec)) guardPlaysCard

/-- THE SECOND FORM's CARD OF 'quoratelaw14.GuardOpens'. -/
def guardOpensUptoCard : Claim7 := { stood := { row := guardOpensUptoRow, standIns := [], harness := (true, "6a19c5df03da1046ec9526fe33662e05d795d329abcee4eea630a0313dcd47f1"), looks := true }, kinds := [], alts := [], laidByText := true, laidKinds := [.sentinel, .sentinel, .sentinel, .sentinel, .sentinel, .sentinel, .sentinel, .sentinel, .sentinel, .sentinel, .sentinel, .sentinel, .sentinel, .sentinel, .sentinel, .sentinel, .sentinel, .sentinel, .data], laidTests := true, laidLooks := .later }
def GuardOpensUptoCardSaid : Prop := Claim7.holds Tryz.pinned (.plain (OpenSpec.upto guardOpensSpec)) guardOpensUptoCard

/-- THE SECOND FORM's CARD OF 'quoratelaw14.GuardEpochs'. -/
def guardEpochsUptoCard : Claim7 := { stood := { row := guardEpochsUptoRow, standIns := [], harness := (true, "6a19c5df03da1046ec9526fe33662e05d795d329abcee4eea630a0313dcd47f1"), looks := true }, kinds := [], alts := [], laidByText := true, laidKinds := [.sentinel, .sentinel, .sentinel, .sentinel, .sentinel, .sentinel, .sentinel, .sentinel, .sentinel, .sentinel, .sentinel, .sentinel, .sentinel, .sentinel, .sentinel, .sentinel, .sentinel, .sentinel, .data], laidTests := true, laidLooks := .later }
def GuardEpochsUptoCardSaid : Prop := Claim7.holds Tryz.pinned (.plain (OpenSpec.upto guardEpochsSpec)) guardEpochsUptoCard

/-- THE SECOND FORM's CARD OF 'quoratelaw14.GuardLeaves'. -/
def guardLeavesUptoCard : Claim7 := { stood := { row := guardLeavesUptoRow, standIns := [], harness := (true, "6a19c5df03da1046ec9526fe33662e05d795d329abcee4eea630a0313dcd47f1"), looks := true }, kinds := [], alts := [], laidByText := true, laidKinds := [.sentinel, .sentinel, .sentinel, .sentinel, .sentinel, .sentinel, .sentinel, .sentinel, .sentinel, .sentinel, .sentinel, .sentinel, .sentinel, .sentinel, .sentinel, .sentinel, .sentinel, .sentinel, .data], laidTests := true, laidLooks := .later }
def GuardLeavesUptoCardSaid : Prop := Claim7.holds Tryz.pinned (.plain (OpenSpec.upto guardLeavesSpec)) guardLeavesUptoCard

/-- THE SECOND FORM's CARD OF 'quoratelaw14.GuardAgain'. -/
def guardAgainUptoCard : Claim7 := { stood := { row := guardAgainUptoRow, standIns := [], harness := (true, "6a19c5df03da1046ec9526fe33662e05d795d329abcee4eea630a0313dcd47f1"), looks := true }, kinds := [], alts := [], laidByText := true, laidKinds := [.sentinel, .sentinel, .sentinel, .sentinel, .sentinel, .sentinel, .sentinel, .sentinel, .sentinel, .sentinel, .sentinel, .sentinel, .sentinel, .sentinel, .sentinel, .sentinel, .sentinel, .sentinel, .data], laidTests := true, laidLooks := .later }
def GuardAgainUptoCardSaid : Prop := Claim7.holds Tryz.pinned (.plain (OpenSpec.upto guardAgainSpec)) guardAgainUptoCard

/-- THE SECOND FORM's CARD OF 'quoratelaw14.GuardPlays'. -/
def guardPlaysUptoCard : Claim7 := { stood := { row := guardPlaysUptoRow, standIns := [], harness := (true, "6a19c5df03da1046ec9526fe33662e05d795d329abcee4eea630a0313dcd47f1"), looks := true }, kinds := [], alts := [], laidByText := true, laidKinds := [.sentinel, .sentinel, .sentinel, .sentinel, .sentinel, .sentinel, .sentinel, .sentinel, .sentinel, .sentinel, .sentinel, .sentinel, .sentinel, .sentinel, .sentinel, .sentinel, .sentinel, .sentinel, .data], laidTests := true, laidLooks := .later }
def GuardPlaysUptoCardSaid : Prop := Claim7.holds Tryz.pinned (.plain (OpenSpec.upto guardPlaysSpec)) guardPlaysUptoCard
end Rows
end Go.Proofs.YtggjlkheniombaaGreatDoor
