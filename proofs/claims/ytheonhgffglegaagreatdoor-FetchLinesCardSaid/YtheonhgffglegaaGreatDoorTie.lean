/-
  DERIVED. GIVEN WITH THE SEED: THE PROGRAM's TIES (one call each: nine closed facts by the kernel) AND EACH ROW's TIE, after the 31st guide's Derived/Test/Toyas{Tie, Card}.lean. No idea stands in it: it is a product of the set-up. Laid BY PROGRAM, IN A SANDBOX (cutbox-door.mjs). By AI agents, Wed Nov 11 2026. No macro, syntax, notation, axiom, sorry.
-/
import Derived.Test.YtheonhgffglegaaGreatDoorRows
import Derived.LaidByTextLater
import Derived.SevenTiedAt
import Derived.LaidSub
import Derived.LaidOnce
namespace Go.Proofs.YtheonhgffglegaaGreatDoor
open Go
set_option maxRecDepth 100000
theorem seatTie1 : Tryz.prog.laidByTextLater [("quorate/api.ErrRange", Rows.laid_quorate_api_ErrRange), ("quorate/api.ErrShort", Rows.laid_quorate_api_ErrShort), ("quorate/api.ErrLong", Rows.laid_quorate_api_ErrLong), ("quorate/api.ErrForm", Rows.laid_quorate_api_ErrForm), ("quorate/api.ErrPower", Rows.laid_quorate_api_ErrPower), ("quorate/api.ErrFull", Rows.laid_quorate_api_ErrFull), ("quorate/api.ErrNone", Rows.laid_quorate_api_ErrNone), ("quorate/api.ErrProof", Rows.laid_quorate_api_ErrProof), ("quorate/api.ErrRound", Rows.laid_quorate_api_ErrRound), ("quorate/api.ErrParent", Rows.laid_quorate_api_ErrParent), ("quorate/api.ErrTwice", Rows.laid_quorate_api_ErrTwice), ("quorate/hash.constants", Rows.laid_quorate_hash_constants)] [.sentinel, .sentinel, .sentinel, .sentinel, .sentinel, .sentinel, .sentinel, .sentinel, .sentinel, .sentinel, .sentinel, .data] true :=
  Program.laidByTextLater_by_one 223 8 65 (by kernel_rfl) (by kernel_rfl) (by kernel_rfl) (by kernel_rfl) (by kernel_rfl) (by kernel_rfl) (fun _ _ => by kernel_rfl)
theorem noOwnUnsafe : Tryz.pinned.checked.prog.headLifts.contains "ownunsafe" = false := by kernel_rfl
theorem tie : Tryz.prog.laidByTextLater [("quorate/api.ErrRange", Rows.laid_quorate_api_ErrRange), ("quorate/api.ErrShort", Rows.laid_quorate_api_ErrShort), ("quorate/api.ErrLong", Rows.laid_quorate_api_ErrLong), ("quorate/api.ErrForm", Rows.laid_quorate_api_ErrForm), ("quorate/api.ErrPower", Rows.laid_quorate_api_ErrPower), ("quorate/api.ErrFull", Rows.laid_quorate_api_ErrFull), ("quorate/api.ErrNone", Rows.laid_quorate_api_ErrNone), ("quorate/api.ErrProof", Rows.laid_quorate_api_ErrProof), ("quorate/api.ErrRound", Rows.laid_quorate_api_ErrRound), ("quorate/api.ErrParent", Rows.laid_quorate_api_ErrParent), ("quorate/api.ErrTwice", Rows.laid_quorate_api_ErrTwice), ("quorate/hash.constants", Rows.laid_quorate_hash_constants)] [.sentinel, .sentinel, .sentinel, .sentinel, .sentinel, .sentinel, .sentinel, .sentinel, .sentinel, .sentinel, .sentinel, .data] true :=
  Program.laidByTextLater.sub seatTie1 ["quorate/api.ErrRange", "quorate/api.ErrShort", "quorate/api.ErrLong", "quorate/api.ErrForm", "quorate/api.ErrPower", "quorate/api.ErrFull", "quorate/api.ErrNone", "quorate/api.ErrProof", "quorate/api.ErrRound", "quorate/api.ErrParent", "quorate/api.ErrTwice", "quorate/hash.constants"] (by kernel_rfl) (by kernel_rfl)
theorem fetchLines_row_tie : Rows.fetchLinesRow.laidByTextAt .later Tryz.pinned [.sentinel, .sentinel, .sentinel, .sentinel, .sentinel, .sentinel, .sentinel, .sentinel, .sentinel, .sentinel, .sentinel, .data] true :=
  OpenClaim.laidByTextAt_later rfl rfl tie noOwnUnsafe
theorem fetchRows_row_tie : Rows.fetchRowsRow.laidByTextAt .later Tryz.pinned [.sentinel, .sentinel, .sentinel, .sentinel, .sentinel, .sentinel, .sentinel, .sentinel, .sentinel, .sentinel, .sentinel, .data] true :=
  OpenClaim.laidByTextAt_later rfl rfl tie noOwnUnsafe
theorem fetchLast_row_tie : Rows.fetchLastRow.laidByTextAt .later Tryz.pinned [.sentinel, .sentinel, .sentinel, .sentinel, .sentinel, .sentinel, .sentinel, .sentinel, .sentinel, .sentinel, .sentinel, .data] true :=
  OpenClaim.laidByTextAt_later rfl rfl tie noOwnUnsafe
theorem fetchAsks_row_tie : Rows.fetchAsksRow.laidByTextAt .later Tryz.pinned [.sentinel, .sentinel, .sentinel, .sentinel, .sentinel, .sentinel, .sentinel, .sentinel, .sentinel, .sentinel, .sentinel, .data] true :=
  OpenClaim.laidByTextAt_later rfl rfl tie noOwnUnsafe
theorem fetchPatience_row_tie : Rows.fetchPatienceRow.laidByTextAt .later Tryz.pinned [.sentinel, .sentinel, .sentinel, .sentinel, .sentinel, .sentinel, .sentinel, .sentinel, .sentinel, .sentinel, .sentinel, .data] true :=
  OpenClaim.laidByTextAt_later rfl rfl tie noOwnUnsafe
theorem fetchLinesUpto_row_tie : Rows.fetchLinesUptoRow.laidByTextAt .later Tryz.pinned [.sentinel, .sentinel, .sentinel, .sentinel, .sentinel, .sentinel, .sentinel, .sentinel, .sentinel, .sentinel, .sentinel, .data] true :=
  OpenClaim.laidByTextAt_later rfl rfl tie noOwnUnsafe
theorem fetchRowsUpto_row_tie : Rows.fetchRowsUptoRow.laidByTextAt .later Tryz.pinned [.sentinel, .sentinel, .sentinel, .sentinel, .sentinel, .sentinel, .sentinel, .sentinel, .sentinel, .sentinel, .sentinel, .data] true :=
  OpenClaim.laidByTextAt_later rfl rfl tie noOwnUnsafe
theorem fetchLastUpto_row_tie : Rows.fetchLastUptoRow.laidByTextAt .later Tryz.pinned [.sentinel, .sentinel, .sentinel, .sentinel, .sentinel, .sentinel, .sentinel, .sentinel, .sentinel, .sentinel, .sentinel, .data] true :=
  OpenClaim.laidByTextAt_later rfl rfl tie noOwnUnsafe
theorem fetchAsksUpto_row_tie : Rows.fetchAsksUptoRow.laidByTextAt .later Tryz.pinned [.sentinel, .sentinel, .sentinel, .sentinel, .sentinel, .sentinel, .sentinel, .sentinel, .sentinel, .sentinel, .sentinel, .data] true :=
  OpenClaim.laidByTextAt_later rfl rfl tie noOwnUnsafe
theorem fetchPatienceUpto_row_tie : Rows.fetchPatienceUptoRow.laidByTextAt .later Tryz.pinned [.sentinel, .sentinel, .sentinel, .sentinel, .sentinel, .sentinel, .sentinel, .sentinel, .sentinel, .sentinel, .sentinel, .data] true :=
  OpenClaim.laidByTextAt_later rfl rfl tie noOwnUnsafe
end Go.Proofs.YtheonhgffglegaaGreatDoor
