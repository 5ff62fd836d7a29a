/-
  DERIVED. GIVEN WITH THE SEED: THE PROGRAM's TIES (one call each: nine closed facts by the kernel) AND EACH ROW's TIE, after the 31st guide's Derived/Test/Toyas{Tie, Card}.lean. No idea stands in it: it is a product of the set-up. Laid BY PROGRAM, IN A SANDBOX (cutbox-door.mjs). By AI agents, Wed Nov 11 2026. No macro, syntax, notation, axiom, sorry.
-/
import Derived.Test.YtkgbbnhdioghmaaDoorRows
import Derived.LaidByTextLater
import Derived.SevenTiedAt
import Derived.LaidSub
import Derived.LaidOnce
namespace Go.Proofs.YtkgbbnhdioghmaaDoor
open Go
set_option maxRecDepth 100000
theorem seatTie1 : Tryd.prog.laidByTextLater [("quorate/api.ErrRange", Rows.laid_quorate_api_ErrRange), ("quorate/api.ErrShort", Rows.laid_quorate_api_ErrShort), ("quorate/api.ErrLong", Rows.laid_quorate_api_ErrLong), ("quorate/api.ErrForm", Rows.laid_quorate_api_ErrForm), ("quorate/api.ErrSpent", Rows.laid_quorate_api_ErrSpent), ("quorate/api.ErrPower", Rows.laid_quorate_api_ErrPower), ("quorate/api.ErrDisk", Rows.laid_quorate_api_ErrDisk), ("quorate/api.ErrFull", Rows.laid_quorate_api_ErrFull), ("quorate/api.ErrNone", Rows.laid_quorate_api_ErrNone), ("quorate/api.ErrOld", Rows.laid_quorate_api_ErrOld), ("quorate/api.ErrSet", Rows.laid_quorate_api_ErrSet), ("quorate/api.ErrProof", Rows.laid_quorate_api_ErrProof), ("quorate/api.ErrLeader", Rows.laid_quorate_api_ErrLeader), ("quorate/api.ErrRound", Rows.laid_quorate_api_ErrRound), ("quorate/api.ErrUnsafe", Rows.laid_quorate_api_ErrUnsafe), ("quorate/api.ErrParent", Rows.laid_quorate_api_ErrParent), ("quorate/api.ErrTwice", Rows.laid_quorate_api_ErrTwice), ("quorate/api.ErrEpoch", Rows.laid_quorate_api_ErrEpoch), ("quorate/hash.constants", Rows.laid_quorate_hash_constants)] [.sentinel, .sentinel, .sentinel, .sentinel, .sentinel, .sentinel, .sentinel, .sentinel, .sentinel, .sentinel, .sentinel, .sentinel, .sentinel, .sentinel, .sentinel, .sentinel, .sentinel, .sentinel, .data] true :=
  Program.laidByTextLater_by_one 356 8 65 (by kernel_rfl) (by kernel_rfl) (by kernel_rfl) (by kernel_rfl) (by kernel_rfl) (by kernel_rfl) (fun _ _ => by kernel_rfl)
theorem noOwnUnsafe : Tryd.pinned.checked.prog.headLifts.contains "ownunsafe" = false := by kernel_rfl
theorem tie : Tryd.prog.laidByTextLater [("quorate/api.ErrRange", Rows.laid_quorate_api_ErrRange), ("quorate/api.ErrForm", Rows.laid_quorate_api_ErrForm), ("quorate/hash.constants", Rows.laid_quorate_hash_constants)] [.sentinel, .sentinel, .data] true :=
  Program.laidByTextLater.sub seatTie1 ["quorate/api.ErrRange", "quorate/api.ErrForm", "quorate/hash.constants"] (by kernel_rfl) (by kernel_rfl)
theorem codecIds_row_tie : Rows.codecIdsRow.laidByTextAt .later Tryd.pinned [.sentinel, .sentinel, .data] true :=
  OpenClaim.laidByTextAt_later rfl rfl tie noOwnUnsafe
theorem codecSigned_row_tie : Rows.codecSignedRow.laidByTextAt .later Tryd.pinned [.sentinel, .sentinel, .data] true :=
  OpenClaim.laidByTextAt_later rfl rfl tie noOwnUnsafe
theorem tie2 : Tryd.prog.laidByTextLater [("quorate/api.ErrRange", Rows.laid_quorate_api_ErrRange), ("quorate/api.ErrShort", Rows.laid_quorate_api_ErrShort), ("quorate/api.ErrLong", Rows.laid_quorate_api_ErrLong), ("quorate/api.ErrForm", Rows.laid_quorate_api_ErrForm)] [.sentinel, .sentinel, .sentinel, .sentinel] true :=
  Program.laidByTextLater.sub seatTie1 ["quorate/api.ErrRange", "quorate/api.ErrShort", "quorate/api.ErrLong", "quorate/api.ErrForm"] (by kernel_rfl) (by kernel_rfl)
theorem codecKinds_row_tie : Rows.codecKindsRow.laidByTextAt .later Tryd.pinned [.sentinel, .sentinel, .sentinel, .sentinel] true :=
  OpenClaim.laidByTextAt_later rfl rfl tie2 noOwnUnsafe
theorem tie3 : Tryd.prog.laidByTextLater [("quorate/api.ErrRange", Rows.laid_quorate_api_ErrRange), ("quorate/api.ErrForm", Rows.laid_quorate_api_ErrForm), ("quorate/api.ErrFull", Rows.laid_quorate_api_ErrFull), ("quorate/api.ErrNone", Rows.laid_quorate_api_ErrNone), ("quorate/api.ErrProof", Rows.laid_quorate_api_ErrProof), ("quorate/api.ErrRound", Rows.laid_quorate_api_ErrRound), ("quorate/api.ErrParent", Rows.laid_quorate_api_ErrParent), ("quorate/api.ErrTwice", Rows.laid_quorate_api_ErrTwice), ("quorate/hash.constants", Rows.laid_quorate_hash_constants)] [.sentinel, .sentinel, .sentinel, .sentinel, .sentinel, .sentinel, .sentinel, .sentinel, .data] true :=
  Program.laidByTextLater.sub seatTie1 ["quorate/api.ErrRange", "quorate/api.ErrForm", "quorate/api.ErrFull", "quorate/api.ErrNone", "quorate/api.ErrProof", "quorate/api.ErrRound", "quorate/api.ErrParent", "quorate/api.ErrTwice", "quorate/hash.constants"] (by kernel_rfl) (by kernel_rfl)
theorem blocksOnce_row_tie : Rows.blocksOnceRow.laidByTextAt .later Tryd.pinned [.sentinel, .sentinel, .sentinel, .sentinel, .sentinel, .sentinel, .sentinel, .sentinel, .data] true :=
  OpenClaim.laidByTextAt_later rfl rfl tie3 noOwnUnsafe
theorem blocksApart_row_tie : Rows.blocksApartRow.laidByTextAt .later Tryd.pinned [.sentinel, .sentinel, .sentinel, .sentinel, .sentinel, .sentinel, .sentinel, .sentinel, .data] true :=
  OpenClaim.laidByTextAt_later rfl rfl tie3 noOwnUnsafe
theorem blocksForks_row_tie : Rows.blocksForksRow.laidByTextAt .later Tryd.pinned [.sentinel, .sentinel, .sentinel, .sentinel, .sentinel, .sentinel, .sentinel, .sentinel, .data] true :=
  OpenClaim.laidByTextAt_later rfl rfl tie3 noOwnUnsafe
theorem blocksRipe_row_tie : Rows.blocksRipeRow.laidByTextAt .later Tryd.pinned [.sentinel, .sentinel, .sentinel, .sentinel, .sentinel, .sentinel, .sentinel, .sentinel, .data] true :=
  OpenClaim.laidByTextAt_later rfl rfl tie3 noOwnUnsafe
theorem tie4 : Tryd.prog.laidByTextLater [("quorate/api.ErrRange", Rows.laid_quorate_api_ErrRange), ("quorate/api.ErrShort", Rows.laid_quorate_api_ErrShort), ("quorate/api.ErrLong", Rows.laid_quorate_api_ErrLong), ("quorate/api.ErrForm", Rows.laid_quorate_api_ErrForm), ("quorate/api.ErrSpent", Rows.laid_quorate_api_ErrSpent), ("quorate/api.ErrPower", Rows.laid_quorate_api_ErrPower), ("quorate/api.ErrDisk", Rows.laid_quorate_api_ErrDisk), ("quorate/api.ErrFull", Rows.laid_quorate_api_ErrFull), ("quorate/api.ErrNone", Rows.laid_quorate_api_ErrNone), ("quorate/api.ErrOld", Rows.laid_quorate_api_ErrOld), ("quorate/api.ErrSet", Rows.laid_quorate_api_ErrSet), ("quorate/api.ErrProof", Rows.laid_quorate_api_ErrProof), ("quorate/api.ErrLeader", Rows.laid_quorate_api_ErrLeader), ("quorate/api.ErrRound", Rows.laid_quorate_api_ErrRound), ("quorate/api.ErrUnsafe", Rows.laid_quorate_api_ErrUnsafe), ("quorate/api.ErrParent", Rows.laid_quorate_api_ErrParent), ("quorate/api.ErrTwice", Rows.laid_quorate_api_ErrTwice), ("quorate/api.ErrEpoch", Rows.laid_quorate_api_ErrEpoch)] [.sentinel, .sentinel, .sentinel, .sentinel, .sentinel, .sentinel, .sentinel, .sentinel, .sentinel, .sentinel, .sentinel, .sentinel, .sentinel, .sentinel, .sentinel, .sentinel, .sentinel, .sentinel] true :=
  Program.laidByTextLater.sub seatTie1 ["quorate/api.ErrRange", "quorate/api.ErrShort", "quorate/api.ErrLong", "quorate/api.ErrForm", "quorate/api.ErrSpent", "quorate/api.ErrPower", "quorate/api.ErrDisk", "quorate/api.ErrFull", "quorate/api.ErrNone", "quorate/api.ErrOld", "quorate/api.ErrSet", "quorate/api.ErrProof", "quorate/api.ErrLeader", "quorate/api.ErrRound", "quorate/api.ErrUnsafe", "quorate/api.ErrParent", "quorate/api.ErrTwice", "quorate/api.ErrEpoch"] (by kernel_rfl) (by kernel_rfl)
theorem codecCut_row_tie : Rows.codecCutRow.laidByTextAt .later Tryd.pinned [.sentinel, .sentinel, .sentinel, .sentinel, .sentinel, .sentinel, .sentinel, .sentinel, .sentinel, .sentinel, .sentinel, .sentinel, .sentinel, .sentinel, .sentinel, .sentinel, .sentinel, .sentinel] true :=
  OpenClaim.laidByTextAt_later rfl rfl tie4 noOwnUnsafe
theorem codecIdsUpto_row_tie : Rows.codecIdsUptoRow.laidByTextAt .later Tryd.pinned [.sentinel, .sentinel, .data] true :=
  OpenClaim.laidByTextAt_later rfl rfl tie noOwnUnsafe
theorem codecSignedUpto_row_tie : Rows.codecSignedUptoRow.laidByTextAt .later Tryd.pinned [.sentinel, .sentinel, .data] true :=
  OpenClaim.laidByTextAt_later rfl rfl tie noOwnUnsafe
theorem codecKindsUpto_row_tie : Rows.codecKindsUptoRow.laidByTextAt .later Tryd.pinned [.sentinel, .sentinel, .sentinel, .sentinel] true :=
  OpenClaim.laidByTextAt_later rfl rfl tie2 noOwnUnsafe
theorem blocksOnceUpto_row_tie : Rows.blocksOnceUptoRow.laidByTextAt .later Tryd.pinned [.sentinel, .sentinel, .sentinel, .sentinel, .sentinel, .sentinel, .sentinel, .sentinel, .data] true :=
  OpenClaim.laidByTextAt_later rfl rfl tie3 noOwnUnsafe
theorem blocksApartUpto_row_tie : Rows.blocksApartUptoRow.laidByTextAt .later Tryd.pinned [.sentinel, .sentinel, .sentinel, .sentinel, .sentinel, .sentinel, .sentinel, .sentinel, .data] true :=
  OpenClaim.laidByTextAt_later rfl rfl tie3 noOwnUnsafe
theorem codecCutUpto_row_tie : Rows.codecCutUptoRow.laidByTextAt .later Tryd.pinned [.sentinel, .sentinel, .sentinel, .sentinel, .sentinel, .sentinel, .sentinel, .sentinel, .sentinel, .sentinel, .sentinel, .sentinel, .sentinel, .sentinel, .sentinel, .sentinel, .sentinel, .sentinel] true :=
  OpenClaim.laidByTextAt_later rfl rfl tie4 noOwnUnsafe
theorem blocksForksUpto_row_tie : Rows.blocksForksUptoRow.laidByTextAt .later Tryd.pinned [.sentinel, .sentinel, .sentinel, .sentinel, .sentinel, .sentinel, .sentinel, .sentinel, .data] true :=
  OpenClaim.laidByTextAt_later rfl rfl tie3 noOwnUnsafe
theorem blocksRipeUpto_row_tie : Rows.blocksRipeUptoRow.laidByTextAt .later Tryd.pinned [.sentinel, .sentinel, .sentinel, .sentinel, .sentinel, .sentinel, .sentinel, .sentinel, .data] true :=
  OpenClaim.laidByTextAt_later rfl rfl tie3 noOwnUnsafe
end Go.Proofs.YtkgbbnhdioghmaaDoor
