/-
  DERIVED. GIVEN WITH THE SEED: THE CARDS: each row of YtheonhgffglegaaDoorRows.lean that lists a variable, with what it lists TIED to the program's text (the seventh form; the later family's looks); each row that meets fmt, with fmt's text TOLD by the authors' own Lean function (tested against real Go, not proved from fmt's source: count such statements apart). THE CARD IS WHAT COUNTS. Prove the row's statement (the work); the ties are given (YtheonhgffglegaaDoorTie.lean); close each card by the builder's one call (the guide's Derived/Test/ToyasCard.lean, 'card_holds'). Laid BY PROGRAM, IN A SANDBOX (cutbox-door.mjs). By AI agents, Wed Nov 11 2026. No macro, syntax, notation, axiom, sorry.
-/
import Derived.Test.YtheonhgffglegaaDoorRows
import GoSem.ClaimSeven
namespace Go.Proofs.YtheonhgffglegaaDoor
namespace Rows

/-- THE TIED CARD OF 'quoratelaw15.BlocksRipe'. -/
def blocksRipeCard : Claim7 := { stood := { row := blocksRipeRow, standIns := [], harness := (true, "29317196f153baac4b16c7462ec7663bbc6b0210f705bc37fd5fac406448ffe8"), looks := false }, kinds := [], alts := [], laidByText := true, laidKinds := [.sentinel, .sentinel, .sentinel, .sentinel, .sentinel, .sentinel, .sentinel, .sentinel, .data], laidTests := true, laidLooks := .later }
def BlocksRipeCardSaid : Prop := Claim7.holds Tryd.pinned (.plain (OpenSpec.ofChange blocksRipeSpec)) blocksRipeCard

/-- THE SECOND FORM's CARD OF 'quoratelaw15.BlocksRipe'. -/
def blocksRipeUptoCard : Claim7 := { stood := { row := blocksRipeUptoRow, standIns := [], harness := (true, "29317196f153baac4b16c7462ec7663bbc6b0210f705bc37fd5fac406448ffe8"), looks := false }, kinds := [], alts := [], laidByText := true, laidKinds := [.sentinel, .sentinel, .sentinel, .sentinel, .sentinel, .sentinel, .sentinel, .sentinel, .data], laidTests := true, laidLooks := .later }
def BlocksRipeUptoCardSaid : Prop := Claim7.holds Tryd.pinned (.plain (OpenSpec.upto blocksRipeSpec)) blocksRipeUptoCard
end Rows
end Go.Proofs.YtheonhgffglegaaDoor
