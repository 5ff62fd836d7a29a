/-
  DERIVED. GIVEN WITH THE SEED: THE CARDS: each row of YtobjojeliibinaaDoorRows.lean that lists a variable, with what it lists TIED to the program's text (the seventh form; the later family's looks); each row that meets fmt, with fmt's text TOLD by the authors' own Lean function (tested against real Go, not proved from fmt's source: count such statements apart). THE CARD IS WHAT COUNTS. Prove the row's statement (the work); the ties are given (YtobjojeliibinaaDoorTie.lean); close each card by the builder's one call (the guide's Derived/Test/ToyasCard.lean, 'card_holds'). Laid BY PROGRAM, IN A SANDBOX (cutbox-door.mjs). By AI agents, Wed Nov 11 2026. No macro, syntax, notation, axiom, sorry.
-/
import Derived.Test.YtobjojeliibinaaDoorRows
import GoSem.ClaimSeven
namespace Go.Proofs.YtobjojeliibinaaDoor
namespace Rows

/-- THE TIED CARD OF 'quoratelaw15.BlocksOnce'. -/
def blocksOnceCard : Claim7 := { stood := { row := blocksOnceRow, standIns := [], harness := (true, "fad0e9299b0af19804e41cb842565c9e4acba985cff27b40b705d7eed63ec1d0"), looks := false }, kinds := [], alts := [], laidByText := true, laidKinds := [.sentinel, .sentinel, .sentinel, .sentinel, .sentinel, .sentinel, .sentinel, .sentinel, .data], laidTests := true, laidLooks := .later }
def BlocksOnceCardSaid : Prop := Claim7.holds Tryd.pinned (.plain (OpenSpec.ofChange blocksOnceSpec)) blocksOnceCard

/-- THE TIED CARD OF 'quoratelaw15.BlocksApart'. -/
def blocksApartCard : Claim7 := { stood := { row := blocksApartRow, standIns := [], harness := (true, "fad0e9299b0af19804e41cb842565c9e4acba985cff27b40b705d7eed63ec1d0"), looks := false }, kinds := [], alts := [], laidByText := true, laidKinds := [.sentinel, .sentinel, .sentinel, .sentinel, .sentinel, .sentinel, .sentinel, .sentinel, .data], laidTests := true, laidLooks := .later }
def BlocksApartCardSaid : Prop := Claim7.holds Tryd.pinned (.plain (OpenSpec.ofChange blocksApartSpec)) blocksApartCard

/-- THE TIED CARD OF 'quoratelaw15.BlocksForks'. -/
def blocksForksCard : Claim7 := { stood := { row := blocksForksRow, standIns := [], harness := (true, "fad0e9299b0af19804e41cb842565c9e4acba985cff27b40b705d7eed63ec1d0"), looks := false }, kinds := [], alts := [], laidByText := true, laidKinds := [.sentinel, .sentinel, .sentinel, .sentinel, .sentinel, .sentinel, .sentinel, .sentinel, .data], laidTests := true, laidLooks := .later }
def BlocksForksCardSaid : Prop := Claim7.holds Tryd.pinned (.plain (OpenSpec.ofChange blocksForksSpec)) blocksForksCard

/-- THE TIED CARD OF 'quoratelaw15.BlocksRipe'. -/
def blocksRipeCard : Claim7 := { stood := { row := blocksRipeRow, standIns := [], harness := (true, "fad0e9299b0af19804e41cb842565c9e4acba985cff27b40b705d7eed63ec1d0"), looks := false }, kinds := [], alts := [], laidByText := true, laidKinds := [.sentinel, .sentinel, .sentinel, .sentinel, .sentinel, .sentinel, .sentinel, .sentinel, .data], laidTests := true, laidLooks := .later }
def BlocksRipeCardSaid : Prop := Claim7.holds Tryd.pinned (.plain (OpenSpec.ofChange blocksRipeSpec)) blocksRipeCard

/-- THE SECOND FORM's CARD OF 'quoratelaw15.BlocksOnce'. -/
def blocksOnceUptoCard : Claim7 := { stood := { row := blocksOnceUptoRow, standIns := [], harness := (true, "fad0e9299b0af19804e41cb842565c9e4acba985cff27b40b705d7eed63ec1d0"), looks := false }, kinds := [], alts := [], laidByText := true, laidKinds := [.sentinel, .sentinel, .sentinel, .sentinel, .sentinel, .sentinel, .sentinel, .sentinel, .data], laidTests := true, laidLooks := .later }
def BlocksOnceUptoCardSaid : Prop := Claim7.holds Tryd.pinned (.plain (OpenSpec.upto blocksOnceSpec)) blocksOnceUptoCard

/-- THE SECOND FORM's CARD OF 'quoratelaw15.BlocksApart'. -/
def blocksApartUptoCard : Claim7 := { stood := { row := blocksApartUptoRow, standIns := [], harness := (true, "fad0e9299b0af19804e41cb842565c9e4acba985cff27b40b705d7eed63ec1d0"), looks := false }, kinds := [], alts := [], laidByText := true, laidKinds := [.sentinel, .sentinel, .sentinel, .sentinel, .sentinel, .sentinel, .sentinel, .sentinel, .data], laidTests := true, laidLooks := .later }
def BlocksApartUptoCardSaid : Prop := Claim7.holds Tryd.pinned (.plain (OpenSpec.upto blocksApartSpec)) blocksApartUptoCard

/-- THE SECOND FORM's CARD OF 'quoratelaw15.BlocksForks'. -/
def blocksForksUptoCard : Claim7 := { stood := { row := blocksForksUptoRow, standIns := [], harness := (true, "fad0e9299b0af19804e41cb842565c9e4acba985cff27b40b705d7eed63ec1d0"), looks := false }, kinds := [], alts := [], laidByText := true, laidKinds := [.sentinel, .sentinel, .sentinel, .sentinel, .sentinel, .sentinel, .sentinel, .sentinel, .data], laidTests := true, laidLooks := .later }
def BlocksForksUptoCardSaid : Prop := Claim7.holds Tryd.pinned (.plain (OpenSpec.upto blocksForksSpec)) blocksForksUptoCard

/-- THE SECOND FORM's CARD OF 'quoratelaw15.BlocksRipe'. -/
def blocksRipeUptoCard : Claim7 := { stood := { row := blocksRipeUptoRow, standIns := [], harness := (true, "fad0e9299b0af19804e41cb842565c9e4acba985cff27b40b705d7eed63ec1d0"), looks := false }, kinds := [], alts := [], laidByText := true, laidKinds := [.sentinel, .sentinel, .sentinel, .sentinel, .sentinel, .sentinel, .sentinel, .sentinel, .data], laidTests := true, laidLooks := .later }
def BlocksRipeUptoCardSaid : Prop := Claim7.holds Tryd.pinned (.plain (OpenSpec.upto blocksRipeSpec)) blocksRipeUptoCard
end Rows
end Go.Proofs.YtobjojeliibinaaDoor
