/-
  DERIVED. GIVEN WITH THE SEED: THE PROGRAM's TIES (one call each: nine closed facts by the kernel) AND EACH ROW's TIE, after the 31st guide's Derived/Test/Toyas{Tie, Card}.lean. No idea stands in it: it is a product of the set-up. Laid BY PROGRAM, IN A SANDBOX (cutbox-door.mjs). By AI agents, Wed Nov 11 2026. No macro, syntax, notation, axiom, sorry.
-/
import Derived.Test.YthicckleihbomaaDoorRows
import Derived.LaidByTextLater
import Derived.SevenTiedAt
import Derived.LaidSub
import Derived.LaidOnce
namespace Go.Proofs.YthicckleihbomaaDoor
open Go
set_option maxRecDepth 100000
theorem seatTie1 : Tryd.prog.laidByTextLater [("math/bits.deBruijn32tab", Rows.laid_math_bits_deBruijn32tab), ("math/bits.deBruijn64tab", Rows.laid_math_bits_deBruijn64tab), ("internal/strconv.uint64pow10", Rows.laid_internal_strconv_uint64pow10), ("unicode/utf8.acceptRanges", Rows.laid_unicode_utf8_acceptRanges), ("quorate/api.ErrRange", Rows.laid_quorate_api_ErrRange), ("quorate/api.ErrShort", Rows.laid_quorate_api_ErrShort), ("quorate/api.ErrLong", Rows.laid_quorate_api_ErrLong), ("quorate/api.ErrForm", Rows.laid_quorate_api_ErrForm), ("quorate/api.ErrSpent", Rows.laid_quorate_api_ErrSpent), ("quorate/api.ErrPower", Rows.laid_quorate_api_ErrPower), ("quorate/api.ErrDisk", Rows.laid_quorate_api_ErrDisk), ("quorate/api.ErrFull", Rows.laid_quorate_api_ErrFull), ("quorate/api.ErrNone", Rows.laid_quorate_api_ErrNone), ("quorate/api.ErrOld", Rows.laid_quorate_api_ErrOld), ("quorate/api.ErrSet", Rows.laid_quorate_api_ErrSet), ("quorate/api.ErrProof", Rows.laid_quorate_api_ErrProof), ("quorate/api.ErrLeader", Rows.laid_quorate_api_ErrLeader), ("quorate/api.ErrRound", Rows.laid_quorate_api_ErrRound), ("quorate/api.ErrUnsafe", Rows.laid_quorate_api_ErrUnsafe), ("quorate/api.ErrParent", Rows.laid_quorate_api_ErrParent), ("quorate/api.ErrTwice", Rows.laid_quorate_api_ErrTwice), ("quorate/api.ErrEpoch", Rows.laid_quorate_api_ErrEpoch)] [.data, .data, .data, .data, .sentinel, .sentinel, .sentinel, .sentinel, .sentinel, .sentinel, .sentinel, .sentinel, .sentinel, .sentinel, .sentinel, .sentinel, .sentinel, .sentinel, .sentinel, .sentinel, .sentinel, .sentinel] true :=
  Program.laidByTextLater_by_one 376 8 65 (by kernel_rfl) (by kernel_rfl) (by kernel_rfl) (by kernel_rfl) (by kernel_rfl) (by kernel_rfl) (fun _ _ => by kernel_rfl)
theorem pin_laid_unicode_utf8_first : Tryd.pinned.checked.prog.pinnedFits "unicode/utf8.first" = true := by kernel_rfl
theorem noOwnUnsafe : Tryd.pinned.checked.prog.headLifts.contains "ownunsafe" = false := by kernel_rfl
theorem fits1 : Tryd.pinned.checked.prog.listedFits [("unicode/utf8.acceptRanges", Rows.laid_unicode_utf8_acceptRanges), ("quorate/api.ErrRange", Rows.laid_quorate_api_ErrRange), ("quorate/api.ErrShort", Rows.laid_quorate_api_ErrShort), ("quorate/api.ErrLong", Rows.laid_quorate_api_ErrLong), ("quorate/api.ErrForm", Rows.laid_quorate_api_ErrForm), ("quorate/api.ErrSpent", Rows.laid_quorate_api_ErrSpent), ("quorate/api.ErrPower", Rows.laid_quorate_api_ErrPower), ("quorate/api.ErrDisk", Rows.laid_quorate_api_ErrDisk), ("quorate/api.ErrFull", Rows.laid_quorate_api_ErrFull), ("quorate/api.ErrNone", Rows.laid_quorate_api_ErrNone), ("quorate/api.ErrOld", Rows.laid_quorate_api_ErrOld), ("quorate/api.ErrSet", Rows.laid_quorate_api_ErrSet), ("quorate/api.ErrProof", Rows.laid_quorate_api_ErrProof), ("quorate/api.ErrLeader", Rows.laid_quorate_api_ErrLeader), ("quorate/api.ErrRound", Rows.laid_quorate_api_ErrRound), ("quorate/api.ErrUnsafe", Rows.laid_quorate_api_ErrUnsafe), ("quorate/api.ErrParent", Rows.laid_quorate_api_ErrParent), ("quorate/api.ErrTwice", Rows.laid_quorate_api_ErrTwice), ("quorate/api.ErrEpoch", Rows.laid_quorate_api_ErrEpoch), ("unicode/utf8.first", Rows.laid_unicode_utf8_first)] = true := by
  unfold Program.listedFits
  rw [noOwnUnsafe]
  kernel_rfl
theorem tie : Tryd.prog.laidByTextLater [("unicode/utf8.acceptRanges", Rows.laid_unicode_utf8_acceptRanges), ("quorate/api.ErrRange", Rows.laid_quorate_api_ErrRange), ("quorate/api.ErrShort", Rows.laid_quorate_api_ErrShort), ("quorate/api.ErrLong", Rows.laid_quorate_api_ErrLong), ("quorate/api.ErrForm", Rows.laid_quorate_api_ErrForm), ("quorate/api.ErrSpent", Rows.laid_quorate_api_ErrSpent), ("quorate/api.ErrPower", Rows.laid_quorate_api_ErrPower), ("quorate/api.ErrDisk", Rows.laid_quorate_api_ErrDisk), ("quorate/api.ErrFull", Rows.laid_quorate_api_ErrFull), ("quorate/api.ErrNone", Rows.laid_quorate_api_ErrNone), ("quorate/api.ErrOld", Rows.laid_quorate_api_ErrOld), ("quorate/api.ErrSet", Rows.laid_quorate_api_ErrSet), ("quorate/api.ErrProof", Rows.laid_quorate_api_ErrProof), ("quorate/api.ErrLeader", Rows.laid_quorate_api_ErrLeader), ("quorate/api.ErrRound", Rows.laid_quorate_api_ErrRound), ("quorate/api.ErrUnsafe", Rows.laid_quorate_api_ErrUnsafe), ("quorate/api.ErrParent", Rows.laid_quorate_api_ErrParent), ("quorate/api.ErrTwice", Rows.laid_quorate_api_ErrTwice), ("quorate/api.ErrEpoch", Rows.laid_quorate_api_ErrEpoch)] [.data, .sentinel, .sentinel, .sentinel, .sentinel, .sentinel, .sentinel, .sentinel, .sentinel, .sentinel, .sentinel, .sentinel, .sentinel, .sentinel, .sentinel, .sentinel, .sentinel, .sentinel, .sentinel] true :=
  Program.laidByTextLater.sub seatTie1 ["unicode/utf8.acceptRanges", "quorate/api.ErrRange", "quorate/api.ErrShort", "quorate/api.ErrLong", "quorate/api.ErrForm", "quorate/api.ErrSpent", "quorate/api.ErrPower", "quorate/api.ErrDisk", "quorate/api.ErrFull", "quorate/api.ErrNone", "quorate/api.ErrOld", "quorate/api.ErrSet", "quorate/api.ErrProof", "quorate/api.ErrLeader", "quorate/api.ErrRound", "quorate/api.ErrUnsafe", "quorate/api.ErrParent", "quorate/api.ErrTwice", "quorate/api.ErrEpoch"] (by kernel_rfl) (by kernel_rfl)
theorem scriptParses_row_tie : Rows.scriptParsesRow.laidByTextAt .later Tryd.pinned [.data, .sentinel, .sentinel, .sentinel, .sentinel, .sentinel, .sentinel, .sentinel, .sentinel, .sentinel, .sentinel, .sentinel, .sentinel, .sentinel, .sentinel, .sentinel, .sentinel, .sentinel, .sentinel, .pinned] true :=
  OpenClaim.laidByTextAt_pinned rfl rfl tie rfl rfl rfl rfl (fun y hy _e => by
    simp only [Rows.scriptParsesRow, List.zip_cons_cons, List.zip_nil_right, List.mem_cons, List.mem_nil_iff, or_false] at hy
    rcases hy with rfl | rfl | rfl | rfl | rfl | rfl | rfl | rfl | rfl | rfl | rfl | rfl | rfl | rfl | rfl | rfl | rfl | rfl | rfl | rfl
    · cases _e
    · cases _e
    · cases _e
    · cases _e
    · cases _e
    · cases _e
    · cases _e
    · cases _e
    · cases _e
    · cases _e
    · cases _e
    · cases _e
    · cases _e
    · cases _e
    · cases _e
    · cases _e
    · cases _e
    · cases _e
    · cases _e
    · exact ⟨pin_laid_unicode_utf8_first, by kernel_rfl⟩) fits1
theorem fits2 : Tryd.pinned.checked.prog.listedFits [("math/bits.deBruijn32tab", Rows.laid_math_bits_deBruijn32tab), ("math/bits.deBruijn64tab", Rows.laid_math_bits_deBruijn64tab), ("internal/strconv.uint64pow10", Rows.laid_internal_strconv_uint64pow10), ("unicode/utf8.acceptRanges", Rows.laid_unicode_utf8_acceptRanges), ("quorate/api.ErrLong", Rows.laid_quorate_api_ErrLong), ("quorate/api.ErrForm", Rows.laid_quorate_api_ErrForm), ("unicode/utf8.first", Rows.laid_unicode_utf8_first)] = true := by
  unfold Program.listedFits
  rw [noOwnUnsafe]
  kernel_rfl
theorem tie2 : Tryd.prog.laidByTextLater [("math/bits.deBruijn32tab", Rows.laid_math_bits_deBruijn32tab), ("math/bits.deBruijn64tab", Rows.laid_math_bits_deBruijn64tab), ("internal/strconv.uint64pow10", Rows.laid_internal_strconv_uint64pow10), ("unicode/utf8.acceptRanges", Rows.laid_unicode_utf8_acceptRanges), ("quorate/api.ErrLong", Rows.laid_quorate_api_ErrLong), ("quorate/api.ErrForm", Rows.laid_quorate_api_ErrForm)] [.data, .data, .data, .data, .sentinel, .sentinel] true :=
  Program.laidByTextLater.sub seatTie1 ["math/bits.deBruijn32tab", "math/bits.deBruijn64tab", "internal/strconv.uint64pow10", "unicode/utf8.acceptRanges", "quorate/api.ErrLong", "quorate/api.ErrForm"] (by kernel_rfl) (by kernel_rfl)
theorem scriptJoins_row_tie : Rows.scriptJoinsRow.laidByTextAt .later Tryd.pinned [.data, .data, .data, .data, .sentinel, .sentinel, .pinned] true :=
  OpenClaim.laidByTextAt_pinned rfl rfl tie2 rfl rfl rfl rfl (fun y hy _e => by
    simp only [Rows.scriptJoinsRow, List.zip_cons_cons, List.zip_nil_right, List.mem_cons, List.mem_nil_iff, or_false] at hy
    rcases hy with rfl | rfl | rfl | rfl | rfl | rfl | rfl
    · cases _e
    · cases _e
    · cases _e
    · cases _e
    · cases _e
    · cases _e
    · exact ⟨pin_laid_unicode_utf8_first, by kernel_rfl⟩) fits2
theorem scriptAgain_row_tie : Rows.scriptAgainRow.laidByTextAt .later Tryd.pinned [.data, .data, .data, .data, .sentinel, .sentinel, .pinned] true :=
  OpenClaim.laidByTextAt_pinned rfl rfl tie2 rfl rfl rfl rfl (fun y hy _e => by
    simp only [Rows.scriptAgainRow, List.zip_cons_cons, List.zip_nil_right, List.mem_cons, List.mem_nil_iff, or_false] at hy
    rcases hy with rfl | rfl | rfl | rfl | rfl | rfl | rfl
    · cases _e
    · cases _e
    · cases _e
    · cases _e
    · cases _e
    · cases _e
    · exact ⟨pin_laid_unicode_utf8_first, by kernel_rfl⟩) fits2
theorem fits3 : Tryd.pinned.checked.prog.listedFits [("math/bits.deBruijn32tab", Rows.laid_math_bits_deBruijn32tab), ("math/bits.deBruijn64tab", Rows.laid_math_bits_deBruijn64tab), ("internal/strconv.uint64pow10", Rows.laid_internal_strconv_uint64pow10), ("unicode/utf8.acceptRanges", Rows.laid_unicode_utf8_acceptRanges), ("quorate/api.ErrRange", Rows.laid_quorate_api_ErrRange), ("quorate/api.ErrShort", Rows.laid_quorate_api_ErrShort), ("quorate/api.ErrLong", Rows.laid_quorate_api_ErrLong), ("quorate/api.ErrForm", Rows.laid_quorate_api_ErrForm), ("quorate/api.ErrSpent", Rows.laid_quorate_api_ErrSpent), ("quorate/api.ErrPower", Rows.laid_quorate_api_ErrPower), ("quorate/api.ErrDisk", Rows.laid_quorate_api_ErrDisk), ("quorate/api.ErrFull", Rows.laid_quorate_api_ErrFull), ("quorate/api.ErrNone", Rows.laid_quorate_api_ErrNone), ("quorate/api.ErrOld", Rows.laid_quorate_api_ErrOld), ("quorate/api.ErrSet", Rows.laid_quorate_api_ErrSet), ("quorate/api.ErrProof", Rows.laid_quorate_api_ErrProof), ("quorate/api.ErrLeader", Rows.laid_quorate_api_ErrLeader), ("quorate/api.ErrRound", Rows.laid_quorate_api_ErrRound), ("quorate/api.ErrUnsafe", Rows.laid_quorate_api_ErrUnsafe), ("quorate/api.ErrParent", Rows.laid_quorate_api_ErrParent), ("quorate/api.ErrTwice", Rows.laid_quorate_api_ErrTwice), ("quorate/api.ErrEpoch", Rows.laid_quorate_api_ErrEpoch), ("unicode/utf8.first", Rows.laid_unicode_utf8_first)] = true := by
  unfold Program.listedFits
  rw [noOwnUnsafe]
  kernel_rfl
theorem tie3 : Tryd.prog.laidByTextLater [("math/bits.deBruijn32tab", Rows.laid_math_bits_deBruijn32tab), ("math/bits.deBruijn64tab", Rows.laid_math_bits_deBruijn64tab), ("internal/strconv.uint64pow10", Rows.laid_internal_strconv_uint64pow10), ("unicode/utf8.acceptRanges", Rows.laid_unicode_utf8_acceptRanges), ("quorate/api.ErrRange", Rows.laid_quorate_api_ErrRange), ("quorate/api.ErrShort", Rows.laid_quorate_api_ErrShort), ("quorate/api.ErrLong", Rows.laid_quorate_api_ErrLong), ("quorate/api.ErrForm", Rows.laid_quorate_api_ErrForm), ("quorate/api.ErrSpent", Rows.laid_quorate_api_ErrSpent), ("quorate/api.ErrPower", Rows.laid_quorate_api_ErrPower), ("quorate/api.ErrDisk", Rows.laid_quorate_api_ErrDisk), ("quorate/api.ErrFull", Rows.laid_quorate_api_ErrFull), ("quorate/api.ErrNone", Rows.laid_quorate_api_ErrNone), ("quorate/api.ErrOld", Rows.laid_quorate_api_ErrOld), ("quorate/api.ErrSet", Rows.laid_quorate_api_ErrSet), ("quorate/api.ErrProof", Rows.laid_quorate_api_ErrProof), ("quorate/api.ErrLeader", Rows.laid_quorate_api_ErrLeader), ("quorate/api.ErrRound", Rows.laid_quorate_api_ErrRound), ("quorate/api.ErrUnsafe", Rows.laid_quorate_api_ErrUnsafe), ("quorate/api.ErrParent", Rows.laid_quorate_api_ErrParent), ("quorate/api.ErrTwice", Rows.laid_quorate_api_ErrTwice), ("quorate/api.ErrEpoch", Rows.laid_quorate_api_ErrEpoch)] [.data, .data, .data, .data, .sentinel, .sentinel, .sentinel, .sentinel, .sentinel, .sentinel, .sentinel, .sentinel, .sentinel, .sentinel, .sentinel, .sentinel, .sentinel, .sentinel, .sentinel, .sentinel, .sentinel, .sentinel] true :=
  Program.laidByTextLater.sub seatTie1 ["math/bits.deBruijn32tab", "math/bits.deBruijn64tab", "internal/strconv.uint64pow10", "unicode/utf8.acceptRanges", "quorate/api.ErrRange", "quorate/api.ErrShort", "quorate/api.ErrLong", "quorate/api.ErrForm", "quorate/api.ErrSpent", "quorate/api.ErrPower", "quorate/api.ErrDisk", "quorate/api.ErrFull", "quorate/api.ErrNone", "quorate/api.ErrOld", "quorate/api.ErrSet", "quorate/api.ErrProof", "quorate/api.ErrLeader", "quorate/api.ErrRound", "quorate/api.ErrUnsafe", "quorate/api.ErrParent", "quorate/api.ErrTwice", "quorate/api.ErrEpoch"] (by kernel_rfl) (by kernel_rfl)
theorem scriptTexts_row_tie : Rows.scriptTextsRow.laidByTextAt .later Tryd.pinned [.data, .data, .data, .data, .sentinel, .sentinel, .sentinel, .sentinel, .sentinel, .sentinel, .sentinel, .sentinel, .sentinel, .sentinel, .sentinel, .sentinel, .sentinel, .sentinel, .sentinel, .sentinel, .sentinel, .sentinel, .pinned] true :=
  OpenClaim.laidByTextAt_pinned rfl rfl tie3 rfl rfl rfl rfl (fun y hy _e => by
    simp only [Rows.scriptTextsRow, List.zip_cons_cons, List.zip_nil_right, List.mem_cons, List.mem_nil_iff, or_false] at hy
    rcases hy with rfl | rfl | rfl | rfl | rfl | rfl | rfl | rfl | rfl | rfl | rfl | rfl | rfl | rfl | rfl | rfl | rfl | rfl | rfl | rfl | rfl | rfl | rfl
    · cases _e
    · cases _e
    · cases _e
    · cases _e
    · cases _e
    · cases _e
    · cases _e
    · cases _e
    · cases _e
    · cases _e
    · cases _e
    · cases _e
    · cases _e
    · cases _e
    · cases _e
    · cases _e
    · cases _e
    · cases _e
    · cases _e
    · cases _e
    · cases _e
    · cases _e
    · exact ⟨pin_laid_unicode_utf8_first, by kernel_rfl⟩) fits3
theorem scriptLong_row_tie : Rows.scriptLongRow.laidByTextAt .later Tryd.pinned [.data, .data, .data, .data, .sentinel, .sentinel, .sentinel, .sentinel, .sentinel, .sentinel, .sentinel, .sentinel, .sentinel, .sentinel, .sentinel, .sentinel, .sentinel, .sentinel, .sentinel, .sentinel, .sentinel, .sentinel, .pinned] true :=
  OpenClaim.laidByTextAt_pinned rfl rfl tie3 rfl rfl rfl rfl (fun y hy _e => by
    simp only [Rows.scriptLongRow, List.zip_cons_cons, List.zip_nil_right, List.mem_cons, List.mem_nil_iff, or_false] at hy
    rcases hy with rfl | rfl | rfl | rfl | rfl | rfl | rfl | rfl | rfl | rfl | rfl | rfl | rfl | rfl | rfl | rfl | rfl | rfl | rfl | rfl | rfl | rfl | rfl
    · cases _e
    · cases _e
    · cases _e
    · cases _e
    · cases _e
    · cases _e
    · cases _e
    · cases _e
    · cases _e
    · cases _e
    · cases _e
    · cases _e
    · cases _e
    · cases _e
    · cases _e
    · cases _e
    · cases _e
    · cases _e
    · cases _e
    · cases _e
    · cases _e
    · cases _e
    · exact ⟨pin_laid_unicode_utf8_first, by kernel_rfl⟩) fits3
theorem scriptParsesUpto_row_tie : Rows.scriptParsesUptoRow.laidByTextAt .later Tryd.pinned [.data, .sentinel, .sentinel, .sentinel, .sentinel, .sentinel, .sentinel, .sentinel, .sentinel, .sentinel, .sentinel, .sentinel, .sentinel, .sentinel, .sentinel, .sentinel, .sentinel, .sentinel, .sentinel, .pinned] true :=
  OpenClaim.laidByTextAt_pinned rfl rfl tie rfl rfl rfl rfl (fun y hy _e => by
    simp only [Rows.scriptParsesUptoRow, List.zip_cons_cons, List.zip_nil_right, List.mem_cons, List.mem_nil_iff, or_false] at hy
    rcases hy with rfl | rfl | rfl | rfl | rfl | rfl | rfl | rfl | rfl | rfl | rfl | rfl | rfl | rfl | rfl | rfl | rfl | rfl | rfl | rfl
    · cases _e
    · cases _e
    · cases _e
    · cases _e
    · cases _e
    · cases _e
    · cases _e
    · cases _e
    · cases _e
    · cases _e
    · cases _e
    · cases _e
    · cases _e
    · cases _e
    · cases _e
    · cases _e
    · cases _e
    · cases _e
    · cases _e
    · exact ⟨pin_laid_unicode_utf8_first, by kernel_rfl⟩) fits1
theorem scriptJoinsUpto_row_tie : Rows.scriptJoinsUptoRow.laidByTextAt .later Tryd.pinned [.data, .data, .data, .data, .sentinel, .sentinel, .pinned] true :=
  OpenClaim.laidByTextAt_pinned rfl rfl tie2 rfl rfl rfl rfl (fun y hy _e => by
    simp only [Rows.scriptJoinsUptoRow, List.zip_cons_cons, List.zip_nil_right, List.mem_cons, List.mem_nil_iff, or_false] at hy
    rcases hy with rfl | rfl | rfl | rfl | rfl | rfl | rfl
    · cases _e
    · cases _e
    · cases _e
    · cases _e
    · cases _e
    · cases _e
    · exact ⟨pin_laid_unicode_utf8_first, by kernel_rfl⟩) fits2
theorem scriptAgainUpto_row_tie : Rows.scriptAgainUptoRow.laidByTextAt .later Tryd.pinned [.data, .data, .data, .data, .sentinel, .sentinel, .pinned] true :=
  OpenClaim.laidByTextAt_pinned rfl rfl tie2 rfl rfl rfl rfl (fun y hy _e => by
    simp only [Rows.scriptAgainUptoRow, List.zip_cons_cons, List.zip_nil_right, List.mem_cons, List.mem_nil_iff, or_false] at hy
    rcases hy with rfl | rfl | rfl | rfl | rfl | rfl | rfl
    · cases _e
    · cases _e
    · cases _e
    · cases _e
    · cases _e
    · cases _e
    · exact ⟨pin_laid_unicode_utf8_first, by kernel_rfl⟩) fits2
theorem scriptTextsUpto_row_tie : Rows.scriptTextsUptoRow.laidByTextAt .later Tryd.pinned [.data, .data, .data, .data, .sentinel, .sentinel, .sentinel, .sentinel, .sentinel, .sentinel, .sentinel, .sentinel, .sentinel, .sentinel, .sentinel, .sentinel, .sentinel, .sentinel, .sentinel, .sentinel, .sentinel, .sentinel, .pinned] true :=
  OpenClaim.laidByTextAt_pinned rfl rfl tie3 rfl rfl rfl rfl (fun y hy _e => by
    simp only [Rows.scriptTextsUptoRow, List.zip_cons_cons, List.zip_nil_right, List.mem_cons, List.mem_nil_iff, or_false] at hy
    rcases hy with rfl | rfl | rfl | rfl | rfl | rfl | rfl | rfl | rfl | rfl | rfl | rfl | rfl | rfl | rfl | rfl | rfl | rfl | rfl | rfl | rfl | rfl | rfl
    · cases _e
    · cases _e
    · cases _e
    · cases _e
    · cases _e
    · cases _e
    · cases _e
    · cases _e
    · cases _e
    · cases _e
    · cases _e
    · cases _e
    · cases _e
    · cases _e
    · cases _e
    · cases _e
    · cases _e
    · cases _e
    · cases _e
    · cases _e
    · cases _e
    · cases _e
    · exact ⟨pin_laid_unicode_utf8_first, by kernel_rfl⟩) fits3
theorem scriptLongUpto_row_tie : Rows.scriptLongUptoRow.laidByTextAt .later Tryd.pinned [.data, .data, .data, .data, .sentinel, .sentinel, .sentinel, .sentinel, .sentinel, .sentinel, .sentinel, .sentinel, .sentinel, .sentinel, .sentinel, .sentinel, .sentinel, .sentinel, .sentinel, .sentinel, .sentinel, .sentinel, .pinned] true :=
  OpenClaim.laidByTextAt_pinned rfl rfl tie3 rfl rfl rfl rfl (fun y hy _e => by
    simp only [Rows.scriptLongUptoRow, List.zip_cons_cons, List.zip_nil_right, List.mem_cons, List.mem_nil_iff, or_false] at hy
    rcases hy with rfl | rfl | rfl | rfl | rfl | rfl | rfl | rfl | rfl | rfl | rfl | rfl | rfl | rfl | rfl | rfl | rfl | rfl | rfl | rfl | rfl | rfl | rfl
    · cases _e
    · cases _e
    · cases _e
    · cases _e
    · cases _e
    · cases _e
    · cases _e
    · cases _e
    · cases _e
    · cases _e
    · cases _e
    · cases _e
    · cases _e
    · cases _e
    · cases _e
    · cases _e
    · cases _e
    · cases _e
    · cases _e
    · cases _e
    · cases _e
    · cases _e
    · exact ⟨pin_laid_unicode_utf8_first, by kernel_rfl⟩) fits3
end Go.Proofs.YthicckleihbomaaDoor
