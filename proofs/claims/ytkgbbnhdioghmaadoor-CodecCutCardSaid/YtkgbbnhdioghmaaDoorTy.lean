/- Closed facts of the translation's tables, by program (facts.py). -/
import Derived.Test.YtkgbbnhdioghmaaDoorEngT
import Derived.Test.YtkgbbnhdioghmaaDoorProg
namespace Go.Proofs.YtkgbbnhdioghmaaDoor
open Go
namespace Ty

theorem sz_3 : szT Tryd.prog 3 = some 1 := by kernel_rfl
instance : SZ Tryd.prog 3 1 := ⟨sz_3⟩
theorem row_3 : rowT Tryd.prog 3 = some false := by kernel_rfl
instance : RO Tryd.prog 3 := ⟨row_3⟩
theorem sz_4 : szT Tryd.prog 4 = some 1 := by kernel_rfl
instance : SZ Tryd.prog 4 1 := ⟨sz_4⟩
theorem row_4 : rowT Tryd.prog 4 = some false := by kernel_rfl
instance : RO Tryd.prog 4 := ⟨row_4⟩
theorem sz_5 : szT Tryd.prog 5 = some 1 := by kernel_rfl
instance : SZ Tryd.prog 5 1 := ⟨sz_5⟩
theorem row_5 : rowT Tryd.prog 5 = some false := by kernel_rfl
instance : RO Tryd.prog 5 := ⟨row_5⟩
theorem sz_9 : szT Tryd.prog 9 = some 1 := by kernel_rfl
instance : SZ Tryd.prog 9 1 := ⟨sz_9⟩
theorem row_9 : rowT Tryd.prog 9 = some false := by kernel_rfl
instance : RO Tryd.prog 9 := ⟨row_9⟩
theorem sz_23 : szT Tryd.prog 23 = some 16 := by kernel_rfl
instance : SZ Tryd.prog 23 16 := ⟨sz_23⟩
theorem row_23 : rowT Tryd.prog 23 = some true := by kernel_rfl
instance : RA Tryd.prog 23 := ⟨row_23⟩
theorem sz_24 : szT Tryd.prog 24 = some 1 := by kernel_rfl
instance : SZ Tryd.prog 24 1 := ⟨sz_24⟩
theorem row_24 : rowT Tryd.prog 24 = some false := by kernel_rfl
instance : RO Tryd.prog 24 := ⟨row_24⟩
theorem sz_26 : szT Tryd.prog 26 = some 19 := by kernel_rfl
instance : SZ Tryd.prog 26 19 := ⟨sz_26⟩
theorem row_26 : rowT Tryd.prog 26 = some true := by kernel_rfl
instance : RA Tryd.prog 26 := ⟨row_26⟩
theorem sz_27 : szT Tryd.prog 27 = some 1 := by kernel_rfl
instance : SZ Tryd.prog 27 1 := ⟨sz_27⟩
theorem row_27 : rowT Tryd.prog 27 = some false := by kernel_rfl
instance : RO Tryd.prog 27 := ⟨row_27⟩
theorem sz_28 : szT Tryd.prog 28 = some 1 := by kernel_rfl
instance : SZ Tryd.prog 28 1 := ⟨sz_28⟩
theorem row_28 : rowT Tryd.prog 28 = some false := by kernel_rfl
instance : RO Tryd.prog 28 := ⟨row_28⟩
theorem sz_30 : szT Tryd.prog 30 = some 39 := by kernel_rfl
instance : SZ Tryd.prog 30 39 := ⟨sz_30⟩
theorem row_30 : rowT Tryd.prog 30 = some true := by kernel_rfl
instance : RA Tryd.prog 30 := ⟨row_30⟩
theorem sz_33 : szT Tryd.prog 33 = some 1 := by kernel_rfl
instance : SZ Tryd.prog 33 1 := ⟨sz_33⟩
theorem row_33 : rowT Tryd.prog 33 = some false := by kernel_rfl
instance : RO Tryd.prog 33 := ⟨row_33⟩
theorem sz_35 : szT Tryd.prog 35 = some 1 := by kernel_rfl
instance : SZ Tryd.prog 35 1 := ⟨sz_35⟩
theorem row_35 : rowT Tryd.prog 35 = some false := by kernel_rfl
instance : RO Tryd.prog 35 := ⟨row_35⟩
theorem sz_45 : szT Tryd.prog 45 = some 1 := by kernel_rfl
instance : SZ Tryd.prog 45 1 := ⟨sz_45⟩
theorem row_45 : rowT Tryd.prog 45 = some false := by kernel_rfl
instance : RO Tryd.prog 45 := ⟨row_45⟩
theorem sz_47 : szT Tryd.prog 47 = some 3 := by kernel_rfl
instance : SZ Tryd.prog 47 3 := ⟨sz_47⟩
theorem row_47 : rowT Tryd.prog 47 = some true := by kernel_rfl
instance : RA Tryd.prog 47 := ⟨row_47⟩
theorem sz_49 : szT Tryd.prog 49 = some 4 := by kernel_rfl
instance : SZ Tryd.prog 49 4 := ⟨sz_49⟩
theorem row_49 : rowT Tryd.prog 49 = some true := by kernel_rfl
instance : RA Tryd.prog 49 := ⟨row_49⟩
theorem sz_51 : szT Tryd.prog 51 = some 22 := by kernel_rfl
instance : SZ Tryd.prog 51 22 := ⟨sz_51⟩
theorem row_51 : rowT Tryd.prog 51 = some true := by kernel_rfl
instance : RA Tryd.prog 51 := ⟨row_51⟩
theorem sz_52 : szT Tryd.prog 52 = some 1 := by kernel_rfl
instance : SZ Tryd.prog 52 1 := ⟨sz_52⟩
theorem row_52 : rowT Tryd.prog 52 = some false := by kernel_rfl
instance : RO Tryd.prog 52 := ⟨row_52⟩
theorem sz_54 : szT Tryd.prog 54 = some 3 := by kernel_rfl
instance : SZ Tryd.prog 54 3 := ⟨sz_54⟩
theorem row_54 : rowT Tryd.prog 54 = some true := by kernel_rfl
instance : RA Tryd.prog 54 := ⟨row_54⟩
theorem sz_56 : szT Tryd.prog 56 = some 28 := by kernel_rfl
instance : SZ Tryd.prog 56 28 := ⟨sz_56⟩
theorem row_56 : rowT Tryd.prog 56 = some true := by kernel_rfl
instance : RA Tryd.prog 56 := ⟨row_56⟩
theorem sz_58 : szT Tryd.prog 58 = some 46 := by kernel_rfl
instance : SZ Tryd.prog 58 46 := ⟨sz_58⟩
theorem row_58 : rowT Tryd.prog 58 = some true := by kernel_rfl
instance : RA Tryd.prog 58 := ⟨row_58⟩
theorem sz_60 : szT Tryd.prog 60 = some 32 := by kernel_rfl
instance : SZ Tryd.prog 60 32 := ⟨sz_60⟩
theorem row_60 : rowT Tryd.prog 60 = some true := by kernel_rfl
instance : RA Tryd.prog 60 := ⟨row_60⟩
theorem sz_62 : szT Tryd.prog 62 = some 39 := by kernel_rfl
instance : SZ Tryd.prog 62 39 := ⟨sz_62⟩
theorem row_62 : rowT Tryd.prog 62 = some true := by kernel_rfl
instance : RA Tryd.prog 62 := ⟨row_62⟩
theorem sz_63 : szT Tryd.prog 63 = some 117 := by kernel_rfl
instance : SZ Tryd.prog 63 117 := ⟨sz_63⟩
theorem row_63 : rowT Tryd.prog 63 = some true := by kernel_rfl
instance : RA Tryd.prog 63 := ⟨row_63⟩
theorem sz_65 : szT Tryd.prog 65 = some 136 := by kernel_rfl
instance : SZ Tryd.prog 65 136 := ⟨sz_65⟩
theorem row_65 : rowT Tryd.prog 65 = some true := by kernel_rfl
instance : RA Tryd.prog 65 := ⟨row_65⟩
theorem sz_67 : szT Tryd.prog 67 = some 304 := by kernel_rfl
instance : SZ Tryd.prog 67 304 := ⟨sz_67⟩
theorem row_67 : rowT Tryd.prog 67 = some true := by kernel_rfl
instance : RA Tryd.prog 67 := ⟨row_67⟩
theorem sz_75 : szT Tryd.prog 75 = some 1 := by kernel_rfl
instance : SZ Tryd.prog 75 1 := ⟨sz_75⟩
theorem row_75 : rowT Tryd.prog 75 = some false := by kernel_rfl
instance : RO Tryd.prog 75 := ⟨row_75⟩
theorem sz_86 : szT Tryd.prog 86 = some 17 := by kernel_rfl
instance : SZ Tryd.prog 86 17 := ⟨sz_86⟩
theorem row_86 : rowT Tryd.prog 86 = some true := by kernel_rfl
instance : RA Tryd.prog 86 := ⟨row_86⟩
theorem sz_105 : szT Tryd.prog 105 = some 1 := by kernel_rfl
instance : SZ Tryd.prog 105 1 := ⟨sz_105⟩
theorem row_105 : rowT Tryd.prog 105 = some false := by kernel_rfl
instance : RO Tryd.prog 105 := ⟨row_105⟩
theorem sz_107 : szT Tryd.prog 107 = some 1 := by kernel_rfl
instance : SZ Tryd.prog 107 1 := ⟨sz_107⟩
theorem row_107 : rowT Tryd.prog 107 = some true := by kernel_rfl
instance : RA Tryd.prog 107 := ⟨row_107⟩
theorem sz_124 : szT Tryd.prog 124 = some 1 := by kernel_rfl
instance : SZ Tryd.prog 124 1 := ⟨sz_124⟩
theorem row_124 : rowT Tryd.prog 124 = some false := by kernel_rfl
instance : RO Tryd.prog 124 := ⟨row_124⟩
theorem sz_126 : szT Tryd.prog 126 = some 1 := by kernel_rfl
instance : SZ Tryd.prog 126 1 := ⟨sz_126⟩
theorem row_126 : rowT Tryd.prog 126 = some true := by kernel_rfl
instance : RA Tryd.prog 126 := ⟨row_126⟩
theorem sz_136 : szT Tryd.prog 136 = some 1 := by kernel_rfl
instance : SZ Tryd.prog 136 1 := ⟨sz_136⟩
theorem row_136 : rowT Tryd.prog 136 = some false := by kernel_rfl
instance : RO Tryd.prog 136 := ⟨row_136⟩
theorem sz_137 : szT Tryd.prog 137 = some 1 := by kernel_rfl
instance : SZ Tryd.prog 137 1 := ⟨sz_137⟩
theorem row_137 : rowT Tryd.prog 137 = some false := by kernel_rfl
instance : RO Tryd.prog 137 := ⟨row_137⟩
theorem sz_139 : szT Tryd.prog 139 = some 19 := by kernel_rfl
instance : SZ Tryd.prog 139 19 := ⟨sz_139⟩
theorem row_139 : rowT Tryd.prog 139 = some true := by kernel_rfl
instance : RA Tryd.prog 139 := ⟨row_139⟩
theorem sz_148 : szT Tryd.prog 148 = some 1 := by kernel_rfl
instance : SZ Tryd.prog 148 1 := ⟨sz_148⟩
theorem row_148 : rowT Tryd.prog 148 = some false := by kernel_rfl
instance : RO Tryd.prog 148 := ⟨row_148⟩
theorem sz_171 : szT Tryd.prog 171 = some 32 := by kernel_rfl
instance : SZ Tryd.prog 171 32 := ⟨sz_171⟩
theorem row_171 : rowT Tryd.prog 171 = some true := by kernel_rfl
instance : RA Tryd.prog 171 := ⟨row_171⟩
theorem sz_176 : szT Tryd.prog 176 = some 1 := by kernel_rfl
instance : SZ Tryd.prog 176 1 := ⟨sz_176⟩
theorem row_176 : rowT Tryd.prog 176 = some false := by kernel_rfl
instance : RO Tryd.prog 176 := ⟨row_176⟩
theorem sz_178 : szT Tryd.prog 178 = some 5 := by kernel_rfl
instance : SZ Tryd.prog 178 5 := ⟨sz_178⟩
theorem row_178 : rowT Tryd.prog 178 = some true := by kernel_rfl
instance : RA Tryd.prog 178 := ⟨row_178⟩
theorem sz_183 : szT Tryd.prog 183 = some 2 := by kernel_rfl
instance : SZ Tryd.prog 183 2 := ⟨sz_183⟩
theorem row_183 : rowT Tryd.prog 183 = some true := by kernel_rfl
instance : RA Tryd.prog 183 := ⟨row_183⟩
theorem sz_195 : szT Tryd.prog 195 = some 2 := by kernel_rfl
instance : SZ Tryd.prog 195 2 := ⟨sz_195⟩
theorem row_195 : rowT Tryd.prog 195 = some true := by kernel_rfl
instance : RA Tryd.prog 195 := ⟨row_195⟩
theorem sz_209 : szT Tryd.prog 209 = some 1 := by kernel_rfl
instance : SZ Tryd.prog 209 1 := ⟨sz_209⟩
theorem row_209 : rowT Tryd.prog 209 = some false := by kernel_rfl
instance : RO Tryd.prog 209 := ⟨row_209⟩
theorem sz_210 : szT Tryd.prog 210 = some 8 := by kernel_rfl
instance : SZ Tryd.prog 210 8 := ⟨sz_210⟩
theorem row_210 : rowT Tryd.prog 210 = some true := by kernel_rfl
instance : RA Tryd.prog 210 := ⟨row_210⟩
theorem sz_211 : szT Tryd.prog 211 = some 8 := by kernel_rfl
instance : SZ Tryd.prog 211 8 := ⟨sz_211⟩
theorem row_211 : rowT Tryd.prog 211 = some true := by kernel_rfl
instance : RA Tryd.prog 211 := ⟨row_211⟩
theorem sz_214 : szT Tryd.prog 214 = some 10 := by kernel_rfl
instance : SZ Tryd.prog 214 10 := ⟨sz_214⟩
theorem row_214 : rowT Tryd.prog 214 = some true := by kernel_rfl
instance : RA Tryd.prog 214 := ⟨row_214⟩
theorem sz_215 : szT Tryd.prog 215 = some 64 := by kernel_rfl
instance : SZ Tryd.prog 215 64 := ⟨sz_215⟩
theorem row_215 : rowT Tryd.prog 215 = some true := by kernel_rfl
instance : RA Tryd.prog 215 := ⟨row_215⟩
theorem sz_272 : szT Tryd.prog 272 = some 1 := by kernel_rfl
instance : SZ Tryd.prog 272 1 := ⟨sz_272⟩
theorem row_272 : rowT Tryd.prog 272 = some true := by kernel_rfl
instance : RA Tryd.prog 272 := ⟨row_272⟩
theorem zc_3 : zcT Tryd.prog 3 = some ([.int .i64 0]) := by kernel_rfl
instance : ZC Tryd.prog 3 ([.int .i64 0]) := ⟨zc_3⟩
theorem zc_4 : zcT Tryd.prog 4 = some ([.bool false]) := by kernel_rfl
instance : ZC Tryd.prog 4 ([.bool false]) := ⟨zc_4⟩
theorem zc_5 : zcT Tryd.prog 5 = some ([.int .u8 0]) := by kernel_rfl
instance : ZC Tryd.prog 5 ([.int .u8 0]) := ⟨zc_5⟩
theorem zc_9 : zcT Tryd.prog 9 = some ([.string ByteArray.empty]) := by kernel_rfl
instance : ZC Tryd.prog 9 ([.string ByteArray.empty]) := ⟨zc_9⟩
theorem zc_23 : zcT Tryd.prog 23 = some (zD) := by kernel_rfl
instance : ZC Tryd.prog 23 (zD) := ⟨zc_23⟩
theorem zc_24 : zcT Tryd.prog 24 = some ([.slice none 0 0]) := by kernel_rfl
instance : ZC Tryd.prog 24 ([.slice none 0 0]) := ⟨zc_24⟩
theorem zc_26 : zcT Tryd.prog 26 = some (HAppend.hAppend [.int .i64 0, .int .i64 0] (HAppend.hAppend zD ([.slice none 0 0]))) := by kernel_rfl
instance : ZC Tryd.prog 26 (HAppend.hAppend [.int .i64 0, .int .i64 0] (HAppend.hAppend zD ([.slice none 0 0]))) := ⟨zc_26⟩
theorem zc_27 : zcT Tryd.prog 27 = some ([.slice none 0 0]) := by kernel_rfl
instance : ZC Tryd.prog 27 ([.slice none 0 0]) := ⟨zc_27⟩
theorem zc_28 : zcT Tryd.prog 28 = some ([.slice none 0 0]) := by kernel_rfl
instance : ZC Tryd.prog 28 ([.slice none 0 0]) := ⟨zc_28⟩
theorem zc_30 : zcT Tryd.prog 30 = some (HAppend.hAppend [.int .i64 0, .int .i64 0] (HAppend.hAppend zD (HAppend.hAppend [.int .i64 0, .int .i64 0] (HAppend.hAppend zD ([.slice none 0 0, .slice none 0 0, .slice none 0 0]))))) := by kernel_rfl
instance : ZC Tryd.prog 30 (HAppend.hAppend [.int .i64 0, .int .i64 0] (HAppend.hAppend zD (HAppend.hAppend [.int .i64 0, .int .i64 0] (HAppend.hAppend zD ([.slice none 0 0, .slice none 0 0, .slice none 0 0]))))) := ⟨zc_30⟩
theorem zc_33 : zcT Tryd.prog 33 = some ([.slice none 0 0]) := by kernel_rfl
instance : ZC Tryd.prog 33 ([.slice none 0 0]) := ⟨zc_33⟩
theorem zc_35 : zcT Tryd.prog 35 = some ([.nilIface]) := by kernel_rfl
instance : ZC Tryd.prog 35 ([.nilIface]) := ⟨zc_35⟩
theorem zc_45 : zcT Tryd.prog 45 = some ([.slice none 0 0]) := by kernel_rfl
instance : ZC Tryd.prog 45 ([.slice none 0 0]) := ⟨zc_45⟩
theorem zc_47 : zcT Tryd.prog 47 = some ([.int .i64 0, .slice none 0 0, .slice none 0 0]) := by kernel_rfl
instance : ZC Tryd.prog 47 ([.int .i64 0, .slice none 0 0, .slice none 0 0]) := ⟨zc_47⟩
theorem zc_49 : zcT Tryd.prog 49 = some ([.int .i64 0, .int .i64 0, .slice none 0 0, .slice none 0 0]) := by kernel_rfl
instance : ZC Tryd.prog 49 ([.int .i64 0, .int .i64 0, .slice none 0 0, .slice none 0 0]) := ⟨zc_49⟩
theorem zc_51 : zcT Tryd.prog 51 = some (HAppend.hAppend [.int .i64 0, .int .i64 0] (HAppend.hAppend zD ([.int .i64 0, .int .i64 0, .slice none 0 0, .slice none 0 0]))) := by kernel_rfl
instance : ZC Tryd.prog 51 (HAppend.hAppend [.int .i64 0, .int .i64 0] (HAppend.hAppend zD ([.int .i64 0, .int .i64 0, .slice none 0 0, .slice none 0 0]))) := ⟨zc_51⟩
theorem zc_52 : zcT Tryd.prog 52 = some ([.slice none 0 0]) := by kernel_rfl
instance : ZC Tryd.prog 52 ([.slice none 0 0]) := ⟨zc_52⟩
theorem zc_54 : zcT Tryd.prog 54 = some ([.int .i64 0, .int .i64 0, .slice none 0 0]) := by kernel_rfl
instance : ZC Tryd.prog 54 ([.int .i64 0, .int .i64 0, .slice none 0 0]) := ⟨zc_54⟩
theorem zc_56 : zcT Tryd.prog 56 = some (HAppend.hAppend [.int .i64 0, .int .i64 0, .int .i64 0, .int .i64 0] (HAppend.hAppend zD ([.slice none 0 0, .int .i64 0, .int .i64 0, .slice none 0 0, .int .i64 0, .int .i64 0, .slice none 0 0, .slice none 0 0]))) := by kernel_rfl
instance : ZC Tryd.prog 56 (HAppend.hAppend [.int .i64 0, .int .i64 0, .int .i64 0, .int .i64 0] (HAppend.hAppend zD ([.slice none 0 0, .int .i64 0, .int .i64 0, .slice none 0 0, .int .i64 0, .int .i64 0, .slice none 0 0, .slice none 0 0]))) := ⟨zc_56⟩
theorem zc_58 : zcT Tryd.prog 58 = some (HAppend.hAppend [.int .i64 0, .int .i64 0] (HAppend.hAppend zD (HAppend.hAppend [.int .i64 0, .int .i64 0] (HAppend.hAppend zD ([.slice none 0 0, .slice none 0 0, .slice none 0 0, .int .i64 0, .int .i64 0, .slice none 0 0, .int .i64 0, .int .i64 0, .slice none 0 0, .slice none 0 0]))))) := by kernel_rfl
instance : ZC Tryd.prog 58 (HAppend.hAppend [.int .i64 0, .int .i64 0] (HAppend.hAppend zD (HAppend.hAppend [.int .i64 0, .int .i64 0] (HAppend.hAppend zD ([.slice none 0 0, .slice none 0 0, .slice none 0 0, .int .i64 0, .int .i64 0, .slice none 0 0, .int .i64 0, .int .i64 0, .slice none 0 0, .slice none 0 0]))))) := ⟨zc_58⟩
theorem zc_60 : zcT Tryd.prog 60 = some (HAppend.hAppend zD (zD)) := by kernel_rfl
instance : ZC Tryd.prog 60 (HAppend.hAppend zD (zD)) := ⟨zc_60⟩
theorem zc_62 : zcT Tryd.prog 62 = some (HAppend.hAppend [.int .i64 0, .int .i64 0] (HAppend.hAppend zD (HAppend.hAppend [.int .i64 0, .int .i64 0] (HAppend.hAppend zD ([.slice none 0 0, .slice none 0 0, .slice none 0 0]))))) := by kernel_rfl
instance : ZC Tryd.prog 62 (HAppend.hAppend [.int .i64 0, .int .i64 0] (HAppend.hAppend zD (HAppend.hAppend [.int .i64 0, .int .i64 0] (HAppend.hAppend zD ([.slice none 0 0, .slice none 0 0, .slice none 0 0]))))) := ⟨zc_62⟩
theorem zc_63 : zcT Tryd.prog 63 = some (HAppend.hAppend [.int .i64 0, .int .i64 0] (HAppend.hAppend zD (HAppend.hAppend [.int .i64 0, .int .i64 0] (HAppend.hAppend zD (HAppend.hAppend [.slice none 0 0, .slice none 0 0, .slice none 0 0, .int .i64 0, .int .i64 0] (HAppend.hAppend zD (HAppend.hAppend [.int .i64 0, .int .i64 0] (HAppend.hAppend zD (HAppend.hAppend [.slice none 0 0, .slice none 0 0, .slice none 0 0, .int .i64 0, .int .i64 0] (HAppend.hAppend zD (HAppend.hAppend [.int .i64 0, .int .i64 0] (HAppend.hAppend zD ([.slice none 0 0, .slice none 0 0, .slice none 0 0]))))))))))))) := by kernel_rfl
instance : ZC Tryd.prog 63 (HAppend.hAppend [.int .i64 0, .int .i64 0] (HAppend.hAppend zD (HAppend.hAppend [.int .i64 0, .int .i64 0] (HAppend.hAppend zD (HAppend.hAppend [.slice none 0 0, .slice none 0 0, .slice none 0 0, .int .i64 0, .int .i64 0] (HAppend.hAppend zD (HAppend.hAppend [.int .i64 0, .int .i64 0] (HAppend.hAppend zD (HAppend.hAppend [.slice none 0 0, .slice none 0 0, .slice none 0 0, .int .i64 0, .int .i64 0] (HAppend.hAppend zD (HAppend.hAppend [.int .i64 0, .int .i64 0] (HAppend.hAppend zD ([.slice none 0 0, .slice none 0 0, .slice none 0 0]))))))))))))) := ⟨zc_63⟩
theorem zc_65 : zcT Tryd.prog 65 = some (HAppend.hAppend [.int .i64 0, .int .i64 0] (HAppend.hAppend zD (HAppend.hAppend [.int .i64 0, .int .i64 0] (HAppend.hAppend zD (HAppend.hAppend [.slice none 0 0, .slice none 0 0, .slice none 0 0, .int .i64 0, .int .i64 0] (HAppend.hAppend zD (HAppend.hAppend [.int .i64 0, .int .i64 0] (HAppend.hAppend zD (HAppend.hAppend [.slice none 0 0, .slice none 0 0, .slice none 0 0, .int .i64 0, .int .i64 0] (HAppend.hAppend zD (HAppend.hAppend [.int .i64 0, .int .i64 0] (HAppend.hAppend zD (HAppend.hAppend [.slice none 0 0, .slice none 0 0, .slice none 0 0, .int .i64 0, .int .i64 0] (HAppend.hAppend zD ([.slice none 0 0]))))))))))))))) := by kernel_rfl
instance : ZC Tryd.prog 65 (HAppend.hAppend [.int .i64 0, .int .i64 0] (HAppend.hAppend zD (HAppend.hAppend [.int .i64 0, .int .i64 0] (HAppend.hAppend zD (HAppend.hAppend [.slice none 0 0, .slice none 0 0, .slice none 0 0, .int .i64 0, .int .i64 0] (HAppend.hAppend zD (HAppend.hAppend [.int .i64 0, .int .i64 0] (HAppend.hAppend zD (HAppend.hAppend [.slice none 0 0, .slice none 0 0, .slice none 0 0, .int .i64 0, .int .i64 0] (HAppend.hAppend zD (HAppend.hAppend [.int .i64 0, .int .i64 0] (HAppend.hAppend zD (HAppend.hAppend [.slice none 0 0, .slice none 0 0, .slice none 0 0, .int .i64 0, .int .i64 0] (HAppend.hAppend zD ([.slice none 0 0]))))))))))))))) := ⟨zc_65⟩
theorem zc_67 : zcT Tryd.prog 67 = some (HAppend.hAppend [.int .i64 0, .int .i64 0, .int .i64 0] (HAppend.hAppend zD (HAppend.hAppend [.int .i64 0, .int .i64 0, .slice none 0 0, .slice none 0 0, .int .i64 0, .int .i64 0, .int .i64 0, .int .i64 0] (HAppend.hAppend zD (HAppend.hAppend [.slice none 0 0, .int .i64 0, .int .i64 0, .slice none 0 0, .int .i64 0, .int .i64 0, .slice none 0 0, .slice none 0 0, .int .i64 0, .int .i64 0] (HAppend.hAppend zD (HAppend.hAppend [.int .i64 0, .int .i64 0] (HAppend.hAppend zD (HAppend.hAppend [.slice none 0 0, .slice none 0 0, .slice none 0 0, .int .i64 0, .int .i64 0, .slice none 0 0, .int .i64 0, .int .i64 0, .slice none 0 0, .slice none 0 0] (HAppend.hAppend zD (HAppend.hAppend zD (HAppend.hAppend [.int .i64 0, .int .i64 0] (HAppend.hAppend zD (HAppend.hAppend [.int .i64 0, .int .i64 0] (HAppend.hAppend zD (HAppend.hAppend [.slice none 0 0, .slice none 0 0, .slice none 0 0, .int .i64 0, .int .i64 0] (HAppend.hAppend zD (HAppend.hAppend [.int .i64 0, .int .i64 0] (HAppend.hAppend zD (HAppend.hAppend [.slice none 0 0, .slice none 0 0, .slice none 0 0, .int .i64 0, .int .i64 0] (HAppend.hAppend zD (HAppend.hAppend [.int .i64 0, .int .i64 0] (HAppend.hAppend zD (HAppend.hAppend [.slice none 0 0, .slice none 0 0, .slice none 0 0, .int .i64 0, .int .i64 0] (HAppend.hAppend zD (HAppend.hAppend [.int .i64 0, .int .i64 0] (HAppend.hAppend zD (HAppend.hAppend [.slice none 0 0, .slice none 0 0, .slice none 0 0, .int .i64 0, .int .i64 0] (HAppend.hAppend zD ([.slice none 0 0])))))))))))))))))))))))))))))) := by kernel_rfl
instance : ZC Tryd.prog 67 (HAppend.hAppend [.int .i64 0, .int .i64 0, .int .i64 0] (HAppend.hAppend zD (HAppend.hAppend [.int .i64 0, .int .i64 0, .slice none 0 0, .slice none 0 0, .int .i64 0, .int .i64 0, .int .i64 0, .int .i64 0] (HAppend.hAppend zD (HAppend.hAppend [.slice none 0 0, .int .i64 0, .int .i64 0, .slice none 0 0, .int .i64 0, .int .i64 0, .slice none 0 0, .slice none 0 0, .int .i64 0, .int .i64 0] (HAppend.hAppend zD (HAppend.hAppend [.int .i64 0, .int .i64 0] (HAppend.hAppend zD (HAppend.hAppend [.slice none 0 0, .slice none 0 0, .slice none 0 0, .int .i64 0, .int .i64 0, .slice none 0 0, .int .i64 0, .int .i64 0, .slice none 0 0, .slice none 0 0] (HAppend.hAppend zD (HAppend.hAppend zD (HAppend.hAppend [.int .i64 0, .int .i64 0] (HAppend.hAppend zD (HAppend.hAppend [.int .i64 0, .int .i64 0] (HAppend.hAppend zD (HAppend.hAppend [.slice none 0 0, .slice none 0 0, .slice none 0 0, .int .i64 0, .int .i64 0] (HAppend.hAppend zD (HAppend.hAppend [.int .i64 0, .int .i64 0] (HAppend.hAppend zD (HAppend.hAppend [.slice none 0 0, .slice none 0 0, .slice none 0 0, .int .i64 0, .int .i64 0] (HAppend.hAppend zD (HAppend.hAppend [.int .i64 0, .int .i64 0] (HAppend.hAppend zD (HAppend.hAppend [.slice none 0 0, .slice none 0 0, .slice none 0 0, .int .i64 0, .int .i64 0] (HAppend.hAppend zD (HAppend.hAppend [.int .i64 0, .int .i64 0] (HAppend.hAppend zD (HAppend.hAppend [.slice none 0 0, .slice none 0 0, .slice none 0 0, .int .i64 0, .int .i64 0] (HAppend.hAppend zD ([.slice none 0 0])))))))))))))))))))))))))))))) := ⟨zc_67⟩
theorem zc_75 : zcT Tryd.prog 75 = some ([.pointer none]) := by kernel_rfl
instance : ZC Tryd.prog 75 ([.pointer none]) := ⟨zc_75⟩
theorem zc_86 : zcT Tryd.prog 86 = some (HAppend.hAppend zD ([.int .i64 0])) := by kernel_rfl
instance : ZC Tryd.prog 86 (HAppend.hAppend zD ([.int .i64 0])) := ⟨zc_86⟩
theorem zc_105 : zcT Tryd.prog 105 = some ([.pointer none]) := by kernel_rfl
instance : ZC Tryd.prog 105 ([.pointer none]) := ⟨zc_105⟩
theorem zc_107 : zcT Tryd.prog 107 = some ([.pointer none]) := by kernel_rfl
instance : ZC Tryd.prog 107 ([.pointer none]) := ⟨zc_107⟩
theorem zc_124 : zcT Tryd.prog 124 = some ([.pointer none]) := by kernel_rfl
instance : ZC Tryd.prog 124 ([.pointer none]) := ⟨zc_124⟩
theorem zc_126 : zcT Tryd.prog 126 = some ([.pointer none]) := by kernel_rfl
instance : ZC Tryd.prog 126 ([.pointer none]) := ⟨zc_126⟩
theorem zc_136 : zcT Tryd.prog 136 = some ([.map none]) := by kernel_rfl
instance : ZC Tryd.prog 136 ([.map none]) := ⟨zc_136⟩
theorem zc_137 : zcT Tryd.prog 137 = some ([.slice none 0 0]) := by kernel_rfl
instance : ZC Tryd.prog 137 ([.slice none 0 0]) := ⟨zc_137⟩
theorem zc_139 : zcT Tryd.prog 139 = some (HAppend.hAppend zD ([.map none, .slice none 0 0, .slice none 0 0])) := by kernel_rfl
instance : ZC Tryd.prog 139 (HAppend.hAppend zD ([.map none, .slice none 0 0, .slice none 0 0])) := ⟨zc_139⟩
theorem zc_148 : zcT Tryd.prog 148 = some ([.map none]) := by kernel_rfl
instance : ZC Tryd.prog 148 ([.map none]) := ⟨zc_148⟩
theorem zc_171 : zcT Tryd.prog 171 = some ((List.replicate 32 (.int .u8 0))) := by kernel_rfl
instance : ZC Tryd.prog 171 ((List.replicate 32 (.int .u8 0))) := ⟨zc_171⟩
theorem zc_176 : zcT Tryd.prog 176 = some ([.int .u64 0]) := by kernel_rfl
instance : ZC Tryd.prog 176 ([.int .u64 0]) := ⟨zc_176⟩
theorem zc_178 : zcT Tryd.prog 178 = some ([.int .i64 0, .int .i64 0, .int .i64 0, .slice none 0 0, .slice none 0 0]) := by kernel_rfl
instance : ZC Tryd.prog 178 ([.int .i64 0, .int .i64 0, .int .i64 0, .slice none 0 0, .slice none 0 0]) := ⟨zc_178⟩
theorem zc_183 : zcT Tryd.prog 183 = some ([.nilIface, .slice none 0 0]) := by kernel_rfl
instance : ZC Tryd.prog 183 ([.nilIface, .slice none 0 0]) := ⟨zc_183⟩
theorem zc_195 : zcT Tryd.prog 195 = some ([.nilIface, .slice none 0 0]) := by kernel_rfl
instance : ZC Tryd.prog 195 ([.nilIface, .slice none 0 0]) := ⟨zc_195⟩
theorem zc_209 : zcT Tryd.prog 209 = some ([.int .u32 0]) := by kernel_rfl
instance : ZC Tryd.prog 209 ([.int .u32 0]) := ⟨zc_209⟩
theorem zc_210 : zcT Tryd.prog 210 = some ((List.replicate 8 (.int .u32 0))) := by kernel_rfl
instance : ZC Tryd.prog 210 ((List.replicate 8 (.int .u32 0))) := ⟨zc_210⟩
theorem zc_211 : zcT Tryd.prog 211 = some ((List.replicate 8 (.int .u32 0))) := by kernel_rfl
instance : ZC Tryd.prog 211 ((List.replicate 8 (.int .u32 0))) := ⟨zc_211⟩
theorem zc_214 : zcT Tryd.prog 214 = some (HAppend.hAppend (List.replicate 8 (.int .u32 0)) ([.slice none 0 0, .int .u64 0])) := by kernel_rfl
instance : ZC Tryd.prog 214 (HAppend.hAppend (List.replicate 8 (.int .u32 0)) ([.slice none 0 0, .int .u64 0])) := ⟨zc_214⟩
theorem zc_215 : zcT Tryd.prog 215 = some ((List.replicate 64 (.int .u32 0))) := by kernel_rfl
instance : ZC Tryd.prog 215 ((List.replicate 64 (.int .u32 0))) := ⟨zc_215⟩
theorem zc_272 : zcT Tryd.prog 272 = some ([.string ByteArray.empty]) := by kernel_rfl
instance : ZC Tryd.prog 272 ([.string ByteArray.empty]) := ⟨zc_272⟩
theorem arr_23 : arrT Tryd.prog 23 = some (16, 5) := by kernel_rfl
instance : ART Tryd.prog 23 16 5 := ⟨arr_23⟩
theorem sl_24 : sliceT Tryd.prog 24 = some 49 := by kernel_rfl
instance : SLT Tryd.prog 24 49 := ⟨sl_24⟩
theorem sl_27 : sliceT Tryd.prog 27 = some 33 := by kernel_rfl
instance : SLT Tryd.prog 27 33 := ⟨sl_27⟩
theorem sl_28 : sliceT Tryd.prog 28 = some 86 := by kernel_rfl
instance : SLT Tryd.prog 28 86 := ⟨sl_28⟩
theorem sl_33 : sliceT Tryd.prog 33 = some 5 := by kernel_rfl
instance : SLT Tryd.prog 33 5 := ⟨sl_33⟩
theorem sl_45 : sliceT Tryd.prog 45 = some 23 := by kernel_rfl
instance : SLT Tryd.prog 45 23 := ⟨sl_45⟩
theorem sl_52 : sliceT Tryd.prog 52 = some 178 := by kernel_rfl
instance : SLT Tryd.prog 52 178 := ⟨sl_52⟩
theorem arr_63 : arrT Tryd.prog 63 = some (3, 30) := by kernel_rfl
instance : ART Tryd.prog 63 3 30 := ⟨arr_63⟩
theorem sl_74 : sliceT Tryd.prog 74 = some 3 := by kernel_rfl
instance : SLT Tryd.prog 74 3 := ⟨sl_74⟩
theorem sl_78 : sliceT Tryd.prog 78 = some 30 := by kernel_rfl
instance : SLT Tryd.prog 78 30 := ⟨sl_78⟩
theorem sl_137 : sliceT Tryd.prog 137 = some 26 := by kernel_rfl
instance : SLT Tryd.prog 137 26 := ⟨sl_137⟩
theorem sl_142 : sliceT Tryd.prog 142 = some 35 := by kernel_rfl
instance : SLT Tryd.prog 142 35 := ⟨sl_142⟩
theorem arr_171 : arrT Tryd.prog 171 = some (32, 5) := by kernel_rfl
instance : ART Tryd.prog 171 32 5 := ⟨arr_171⟩
theorem sl_173 : sliceT Tryd.prog 173 = some 9 := by kernel_rfl
instance : SLT Tryd.prog 173 9 := ⟨sl_173⟩
theorem arr_210 : arrT Tryd.prog 210 = some (8, 209) := by kernel_rfl
instance : ART Tryd.prog 210 8 209 := ⟨arr_210⟩
theorem arr_211 : arrT Tryd.prog 211 = some (8, 209) := by kernel_rfl
instance : ART Tryd.prog 211 8 209 := ⟨arr_211⟩
theorem arr_215 : arrT Tryd.prog 215 = some (64, 209) := by kernel_rfl
instance : ART Tryd.prog 215 64 209 := ⟨arr_215⟩
theorem el_24 : ElemT Tryd.prog 24 49 4 64 := elemT_of (by kernel_rfl)
instance : ELT Tryd.prog 24 49 4 64 := ⟨el_24⟩
theorem el_27 : ElemT Tryd.prog 27 33 1 24 := elemT_of (by kernel_rfl)
instance : ELT Tryd.prog 27 33 1 24 := ⟨el_27⟩
theorem el_28 : ElemT Tryd.prog 28 86 17 24 := elemT_of (by kernel_rfl)
instance : ELT Tryd.prog 28 86 17 24 := ⟨el_28⟩
theorem el_33 : ElemT Tryd.prog 33 5 1 1 := elemT_of (by kernel_rfl)
instance : ELT Tryd.prog 33 5 1 1 := ⟨el_33⟩
theorem el_45 : ElemT Tryd.prog 45 23 16 16 := elemT_of (by kernel_rfl)
instance : ELT Tryd.prog 45 23 16 16 := ⟨el_45⟩
theorem el_52 : ElemT Tryd.prog 52 178 5 72 := elemT_of (by kernel_rfl)
instance : ELT Tryd.prog 52 178 5 72 := ⟨el_52⟩
theorem el_74 : ElemT Tryd.prog 74 3 1 8 := elemT_of (by kernel_rfl)
instance : ELT Tryd.prog 74 3 1 8 := ⟨el_74⟩
theorem el_78 : ElemT Tryd.prog 78 30 39 136 := elemT_of (by kernel_rfl)
instance : ELT Tryd.prog 78 30 39 136 := ⟨el_78⟩
theorem el_137 : ElemT Tryd.prog 137 26 19 56 := elemT_of (by kernel_rfl)
instance : ELT Tryd.prog 137 26 19 56 := ⟨el_137⟩
theorem el_142 : ElemT Tryd.prog 142 35 1 16 := elemT_of (by kernel_rfl)
instance : ELT Tryd.prog 142 35 1 16 := ⟨el_142⟩
theorem el_173 : ElemT Tryd.prog 173 9 1 16 := elemT_of (by kernel_rfl)
instance : ELT Tryd.prog 173 9 1 16 := ⟨el_173⟩
theorem un_3 : Tryd.prog.underlying 3 = some (.int .i64) := by kernel_rfl
instance : UNT Tryd.prog 3 (.int .i64) := ⟨un_3⟩
theorem un_4 : Tryd.prog.underlying 4 = some (.bool) := by kernel_rfl
instance : UNT Tryd.prog 4 (.bool) := ⟨un_4⟩
theorem un_5 : Tryd.prog.underlying 5 = some (.int .u8) := by kernel_rfl
instance : UNT Tryd.prog 5 (.int .u8) := ⟨un_5⟩
theorem un_9 : Tryd.prog.underlying 9 = some (.string) := by kernel_rfl
instance : UNT Tryd.prog 9 (.string) := ⟨un_9⟩
theorem un_23 : Tryd.prog.underlying 23 = some (.array 16 5) := by kernel_rfl
instance : UNT Tryd.prog 23 (.array 16 5) := ⟨un_23⟩
theorem pl_26 : placesT Tryd.prog 26 = some [(0, 1), (1, 1), (2, 16), (18, 1)] := by kernel_rfl
instance : PLT Tryd.prog 26 [(0, 1), (1, 1), (2, 16), (18, 1)] := ⟨pl_26⟩
theorem un_28 : Tryd.prog.underlying 28 = some (.slice 86) := by kernel_rfl
instance : UNT Tryd.prog 28 (.slice 86) := ⟨un_28⟩
theorem pl_30 : placesT Tryd.prog 30 = some [(0, 1), (1, 1), (2, 16), (18, 19), (37, 1), (38, 1)] := by kernel_rfl
instance : PLT Tryd.prog 30 [(0, 1), (1, 1), (2, 16), (18, 19), (37, 1), (38, 1)] := ⟨pl_30⟩
theorem un_33 : Tryd.prog.underlying 33 = some (.slice 5) := by kernel_rfl
instance : UNT Tryd.prog 33 (.slice 5) := ⟨un_33⟩
theorem ifc_35 : ifcT Tryd.prog 35 = true := by kernel_rfl
instance : IFT Tryd.prog 35 := ⟨ifc_35⟩
theorem un_45 : Tryd.prog.underlying 45 = some (.slice 23) := by kernel_rfl
instance : UNT Tryd.prog 45 (.slice 23) := ⟨un_45⟩
theorem pl_47 : placesT Tryd.prog 47 = some [(0, 1), (1, 1), (2, 1)] := by kernel_rfl
instance : PLT Tryd.prog 47 [(0, 1), (1, 1), (2, 1)] := ⟨pl_47⟩
theorem pl_49 : placesT Tryd.prog 49 = some [(0, 1), (1, 3)] := by kernel_rfl
instance : PLT Tryd.prog 49 [(0, 1), (1, 3)] := ⟨pl_49⟩
theorem pl_60 : placesT Tryd.prog 60 = some [(0, 16), (16, 16)] := by kernel_rfl
instance : PLT Tryd.prog 60 [(0, 16), (16, 16)] := ⟨pl_60⟩
theorem pl_67 : placesT Tryd.prog 67 = some [(0, 1), (1, 22), (23, 28), (51, 46), (97, 32), (129, 39), (168, 136)] := by kernel_rfl
instance : PLT Tryd.prog 67 [(0, 1), (1, 22), (23, 28), (51, 46), (97, 32), (129, 39), (168, 136)] := ⟨pl_67⟩
theorem un_75 : Tryd.prog.underlying 75 = some (.pointer 139) := by kernel_rfl
instance : UNT Tryd.prog 75 (.pointer 139) := ⟨un_75⟩
theorem un_80 : Tryd.prog.underlying 80 = some (.int .u64) := by kernel_rfl
instance : UNT Tryd.prog 80 (.int .u64) := ⟨un_80⟩
theorem pl_86 : placesT Tryd.prog 86 = some [(0, 16), (16, 1)] := by kernel_rfl
instance : PLT Tryd.prog 86 [(0, 16), (16, 1)] := ⟨pl_86⟩
theorem pl_107 : placesT Tryd.prog 107 = some [(0, 1)] := by kernel_rfl
instance : PLT Tryd.prog 107 [(0, 1)] := ⟨pl_107⟩
theorem pl_126 : placesT Tryd.prog 126 = some [(0, 1)] := by kernel_rfl
instance : PLT Tryd.prog 126 [(0, 1)] := ⟨pl_126⟩
theorem un_136 : Tryd.prog.underlying 136 = some (.map 23 30) := by kernel_rfl
instance : UNT Tryd.prog 136 (.map 23 30) := ⟨un_136⟩
theorem pl_139 : placesT Tryd.prog 139 = some [(0, 16), (16, 1), (17, 1), (18, 1)] := by kernel_rfl
instance : PLT Tryd.prog 139 [(0, 16), (16, 1), (17, 1), (18, 1)] := ⟨pl_139⟩
theorem un_148 : Tryd.prog.underlying 148 = some (.map 23 4) := by kernel_rfl
instance : UNT Tryd.prog 148 (.map 23 4) := ⟨un_148⟩
theorem un_171 : Tryd.prog.underlying 171 = some (.array 32 5) := by kernel_rfl
instance : UNT Tryd.prog 171 (.array 32 5) := ⟨un_171⟩
theorem un_176 : Tryd.prog.underlying 176 = some (.int .u64) := by kernel_rfl
instance : UNT Tryd.prog 176 (.int .u64) := ⟨un_176⟩
theorem pl_183 : placesT Tryd.prog 183 = some [(0, 1), (1, 1)] := by kernel_rfl
instance : PLT Tryd.prog 183 [(0, 1), (1, 1)] := ⟨pl_183⟩
theorem pl_195 : placesT Tryd.prog 195 = some [(0, 1), (1, 1)] := by kernel_rfl
instance : PLT Tryd.prog 195 [(0, 1), (1, 1)] := ⟨pl_195⟩
theorem un_209 : Tryd.prog.underlying 209 = some (.int .u32) := by kernel_rfl
instance : UNT Tryd.prog 209 (.int .u32) := ⟨un_209⟩
theorem un_210 : Tryd.prog.underlying 210 = some (.array 8 209) := by kernel_rfl
instance : UNT Tryd.prog 210 (.array 8 209) := ⟨un_210⟩
theorem un_211 : Tryd.prog.underlying 211 = some (.array 8 209) := by kernel_rfl
instance : UNT Tryd.prog 211 (.array 8 209) := ⟨un_211⟩
theorem pl_214 : placesT Tryd.prog 214 = some [(0, 8), (8, 1), (9, 1)] := by kernel_rfl
instance : PLT Tryd.prog 214 [(0, 8), (8, 1), (9, 1)] := ⟨pl_214⟩
theorem un_215 : Tryd.prog.underlying 215 = some (.array 64 209) := by kernel_rfl
instance : UNT Tryd.prog 215 (.array 64 209) := ⟨un_215⟩
theorem un_246 : Tryd.prog.underlying 246 = some (.pointer 272) := by kernel_rfl
instance : UNT Tryd.prog 246 (.pointer 272) := ⟨un_246⟩
theorem pl_272 : placesT Tryd.prog 272 = some [(0, 1)] := by kernel_rfl
instance : PLT Tryd.prog 272 [(0, 1)] := ⟨pl_272⟩
theorem fo_26_0 : foff Tryd.prog 26 0 = some 0 := by kernel_rfl
instance : FO Tryd.prog 26 0 0 := ⟨fo_26_0⟩
theorem fo_26_1 : foff Tryd.prog 26 1 = some 1 := by kernel_rfl
instance : FO Tryd.prog 26 1 1 := ⟨fo_26_1⟩
theorem fo_26_2 : foff Tryd.prog 26 2 = some 2 := by kernel_rfl
instance : FO Tryd.prog 26 2 2 := ⟨fo_26_2⟩
theorem fo_26_3 : foff Tryd.prog 26 3 = some 18 := by kernel_rfl
instance : FO Tryd.prog 26 3 18 := ⟨fo_26_3⟩
theorem fo_30_0 : foff Tryd.prog 30 0 = some 0 := by kernel_rfl
instance : FO Tryd.prog 30 0 0 := ⟨fo_30_0⟩
theorem fo_30_1 : foff Tryd.prog 30 1 = some 1 := by kernel_rfl
instance : FO Tryd.prog 30 1 1 := ⟨fo_30_1⟩
theorem fo_30_2 : foff Tryd.prog 30 2 = some 2 := by kernel_rfl
instance : FO Tryd.prog 30 2 2 := ⟨fo_30_2⟩
theorem fo_30_3 : foff Tryd.prog 30 3 = some 18 := by kernel_rfl
instance : FO Tryd.prog 30 3 18 := ⟨fo_30_3⟩
theorem fo_30_4 : foff Tryd.prog 30 4 = some 37 := by kernel_rfl
instance : FO Tryd.prog 30 4 37 := ⟨fo_30_4⟩
theorem fo_30_5 : foff Tryd.prog 30 5 = some 38 := by kernel_rfl
instance : FO Tryd.prog 30 5 38 := ⟨fo_30_5⟩
theorem fo_47_0 : foff Tryd.prog 47 0 = some 0 := by kernel_rfl
instance : FO Tryd.prog 47 0 0 := ⟨fo_47_0⟩
theorem fo_47_1 : foff Tryd.prog 47 1 = some 1 := by kernel_rfl
instance : FO Tryd.prog 47 1 1 := ⟨fo_47_1⟩
theorem fo_47_2 : foff Tryd.prog 47 2 = some 2 := by kernel_rfl
instance : FO Tryd.prog 47 2 2 := ⟨fo_47_2⟩
theorem fo_49_0 : foff Tryd.prog 49 0 = some 0 := by kernel_rfl
instance : FO Tryd.prog 49 0 0 := ⟨fo_49_0⟩
theorem fo_49_1 : foff Tryd.prog 49 1 = some 1 := by kernel_rfl
instance : FO Tryd.prog 49 1 1 := ⟨fo_49_1⟩
theorem fo_51_0 : foff Tryd.prog 51 0 = some 0 := by kernel_rfl
instance : FO Tryd.prog 51 0 0 := ⟨fo_51_0⟩
theorem fo_51_1 : foff Tryd.prog 51 1 = some 1 := by kernel_rfl
instance : FO Tryd.prog 51 1 1 := ⟨fo_51_1⟩
theorem fo_51_2 : foff Tryd.prog 51 2 = some 2 := by kernel_rfl
instance : FO Tryd.prog 51 2 2 := ⟨fo_51_2⟩
theorem fo_51_3 : foff Tryd.prog 51 3 = some 18 := by kernel_rfl
instance : FO Tryd.prog 51 3 18 := ⟨fo_51_3⟩
theorem fo_54_0 : foff Tryd.prog 54 0 = some 0 := by kernel_rfl
instance : FO Tryd.prog 54 0 0 := ⟨fo_54_0⟩
theorem fo_54_1 : foff Tryd.prog 54 1 = some 1 := by kernel_rfl
instance : FO Tryd.prog 54 1 1 := ⟨fo_54_1⟩
theorem fo_54_2 : foff Tryd.prog 54 2 = some 2 := by kernel_rfl
instance : FO Tryd.prog 54 2 2 := ⟨fo_54_2⟩
theorem fo_56_0 : foff Tryd.prog 56 0 = some 0 := by kernel_rfl
instance : FO Tryd.prog 56 0 0 := ⟨fo_56_0⟩
theorem fo_56_1 : foff Tryd.prog 56 1 = some 1 := by kernel_rfl
instance : FO Tryd.prog 56 1 1 := ⟨fo_56_1⟩
theorem fo_56_2 : foff Tryd.prog 56 2 = some 2 := by kernel_rfl
instance : FO Tryd.prog 56 2 2 := ⟨fo_56_2⟩
theorem fo_56_3 : foff Tryd.prog 56 3 = some 21 := by kernel_rfl
instance : FO Tryd.prog 56 3 21 := ⟨fo_56_3⟩
theorem fo_56_4 : foff Tryd.prog 56 4 = some 24 := by kernel_rfl
instance : FO Tryd.prog 56 4 24 := ⟨fo_56_4⟩
theorem fo_58_0 : foff Tryd.prog 58 0 = some 0 := by kernel_rfl
instance : FO Tryd.prog 58 0 0 := ⟨fo_58_0⟩
theorem fo_58_1 : foff Tryd.prog 58 1 = some 39 := by kernel_rfl
instance : FO Tryd.prog 58 1 39 := ⟨fo_58_1⟩
theorem fo_58_2 : foff Tryd.prog 58 2 = some 42 := by kernel_rfl
instance : FO Tryd.prog 58 2 42 := ⟨fo_58_2⟩
theorem fo_60_0 : foff Tryd.prog 60 0 = some 0 := by kernel_rfl
instance : FO Tryd.prog 60 0 0 := ⟨fo_60_0⟩
theorem fo_60_1 : foff Tryd.prog 60 1 = some 16 := by kernel_rfl
instance : FO Tryd.prog 60 1 16 := ⟨fo_60_1⟩
theorem fo_62_0 : foff Tryd.prog 62 0 = some 0 := by kernel_rfl
instance : FO Tryd.prog 62 0 0 := ⟨fo_62_0⟩
theorem fo_65_0 : foff Tryd.prog 65 0 = some 0 := by kernel_rfl
instance : FO Tryd.prog 65 0 0 := ⟨fo_65_0⟩
theorem fo_65_1 : foff Tryd.prog 65 1 = some 117 := by kernel_rfl
instance : FO Tryd.prog 65 1 117 := ⟨fo_65_1⟩
theorem fo_67_0 : foff Tryd.prog 67 0 = some 0 := by kernel_rfl
instance : FO Tryd.prog 67 0 0 := ⟨fo_67_0⟩
theorem fo_67_1 : foff Tryd.prog 67 1 = some 1 := by kernel_rfl
instance : FO Tryd.prog 67 1 1 := ⟨fo_67_1⟩
theorem fo_67_2 : foff Tryd.prog 67 2 = some 23 := by kernel_rfl
instance : FO Tryd.prog 67 2 23 := ⟨fo_67_2⟩
theorem fo_67_3 : foff Tryd.prog 67 3 = some 51 := by kernel_rfl
instance : FO Tryd.prog 67 3 51 := ⟨fo_67_3⟩
theorem fo_67_4 : foff Tryd.prog 67 4 = some 97 := by kernel_rfl
instance : FO Tryd.prog 67 4 97 := ⟨fo_67_4⟩
theorem fo_67_5 : foff Tryd.prog 67 5 = some 129 := by kernel_rfl
instance : FO Tryd.prog 67 5 129 := ⟨fo_67_5⟩
theorem fo_67_6 : foff Tryd.prog 67 6 = some 168 := by kernel_rfl
instance : FO Tryd.prog 67 6 168 := ⟨fo_67_6⟩
theorem fo_86_0 : foff Tryd.prog 86 0 = some 0 := by kernel_rfl
instance : FO Tryd.prog 86 0 0 := ⟨fo_86_0⟩
theorem fo_86_1 : foff Tryd.prog 86 1 = some 16 := by kernel_rfl
instance : FO Tryd.prog 86 1 16 := ⟨fo_86_1⟩
theorem fo_107_0 : foff Tryd.prog 107 0 = some 0 := by kernel_rfl
instance : FO Tryd.prog 107 0 0 := ⟨fo_107_0⟩
theorem fo_126_0 : foff Tryd.prog 126 0 = some 0 := by kernel_rfl
instance : FO Tryd.prog 126 0 0 := ⟨fo_126_0⟩
theorem fo_139_0 : foff Tryd.prog 139 0 = some 0 := by kernel_rfl
instance : FO Tryd.prog 139 0 0 := ⟨fo_139_0⟩
theorem fo_139_1 : foff Tryd.prog 139 1 = some 16 := by kernel_rfl
instance : FO Tryd.prog 139 1 16 := ⟨fo_139_1⟩
theorem fo_139_2 : foff Tryd.prog 139 2 = some 17 := by kernel_rfl
instance : FO Tryd.prog 139 2 17 := ⟨fo_139_2⟩
theorem fo_139_3 : foff Tryd.prog 139 3 = some 18 := by kernel_rfl
instance : FO Tryd.prog 139 3 18 := ⟨fo_139_3⟩
theorem fo_178_0 : foff Tryd.prog 178 0 = some 0 := by kernel_rfl
instance : FO Tryd.prog 178 0 0 := ⟨fo_178_0⟩
theorem fo_178_1 : foff Tryd.prog 178 1 = some 1 := by kernel_rfl
instance : FO Tryd.prog 178 1 1 := ⟨fo_178_1⟩
theorem fo_178_2 : foff Tryd.prog 178 2 = some 2 := by kernel_rfl
instance : FO Tryd.prog 178 2 2 := ⟨fo_178_2⟩
theorem fo_181_0 : foff Tryd.prog 181 0 = some 0 := by kernel_rfl
instance : FO Tryd.prog 181 0 0 := ⟨fo_181_0⟩
theorem fo_183_0 : foff Tryd.prog 183 0 = some 0 := by kernel_rfl
instance : FO Tryd.prog 183 0 0 := ⟨fo_183_0⟩
theorem fo_183_1 : foff Tryd.prog 183 1 = some 1 := by kernel_rfl
instance : FO Tryd.prog 183 1 1 := ⟨fo_183_1⟩
theorem fo_195_0 : foff Tryd.prog 195 0 = some 0 := by kernel_rfl
instance : FO Tryd.prog 195 0 0 := ⟨fo_195_0⟩
theorem fo_195_1 : foff Tryd.prog 195 1 = some 1 := by kernel_rfl
instance : FO Tryd.prog 195 1 1 := ⟨fo_195_1⟩
theorem fo_214_0 : foff Tryd.prog 214 0 = some 0 := by kernel_rfl
instance : FO Tryd.prog 214 0 0 := ⟨fo_214_0⟩
theorem fo_214_1 : foff Tryd.prog 214 1 = some 8 := by kernel_rfl
instance : FO Tryd.prog 214 1 8 := ⟨fo_214_1⟩
theorem fo_214_2 : foff Tryd.prog 214 2 = some 9 := by kernel_rfl
instance : FO Tryd.prog 214 2 9 := ⟨fo_214_2⟩
theorem call_3 : okCall Tryd.prog 3 = true := by kernel_rfl
instance : CLT Tryd.prog 3 := ⟨call_3⟩
theorem call_4 : okCall Tryd.prog 4 = true := by kernel_rfl
instance : CLT Tryd.prog 4 := ⟨call_4⟩
theorem call_5 : okCall Tryd.prog 5 = true := by kernel_rfl
instance : CLT Tryd.prog 5 := ⟨call_5⟩
theorem call_6 : okCall Tryd.prog 6 = true := by kernel_rfl
instance : CLT Tryd.prog 6 := ⟨call_6⟩
theorem call_7 : okCall Tryd.prog 7 = true := by kernel_rfl
instance : CLT Tryd.prog 7 := ⟨call_7⟩
theorem call_8 : okCall Tryd.prog 8 = true := by kernel_rfl
instance : CLT Tryd.prog 8 := ⟨call_8⟩
theorem call_9 : okCall Tryd.prog 9 = true := by kernel_rfl
instance : CLT Tryd.prog 9 := ⟨call_9⟩
theorem call_10 : okCall Tryd.prog 10 = true := by kernel_rfl
instance : CLT Tryd.prog 10 := ⟨call_10⟩
theorem call_11 : okCall Tryd.prog 11 = true := by kernel_rfl
instance : CLT Tryd.prog 11 := ⟨call_11⟩
theorem call_12 : okCall Tryd.prog 12 = true := by kernel_rfl
instance : CLT Tryd.prog 12 := ⟨call_12⟩
theorem call_13 : okCall Tryd.prog 13 = true := by kernel_rfl
instance : CLT Tryd.prog 13 := ⟨call_13⟩
theorem call_14 : okCall Tryd.prog 14 = true := by kernel_rfl
instance : CLT Tryd.prog 14 := ⟨call_14⟩
theorem call_15 : okCall Tryd.prog 15 = true := by kernel_rfl
instance : CLT Tryd.prog 15 := ⟨call_15⟩
theorem call_16 : okCall Tryd.prog 16 = true := by kernel_rfl
instance : CLT Tryd.prog 16 := ⟨call_16⟩
theorem call_17 : okCall Tryd.prog 17 = true := by kernel_rfl
instance : CLT Tryd.prog 17 := ⟨call_17⟩
theorem call_18 : okCall Tryd.prog 18 = true := by kernel_rfl
instance : CLT Tryd.prog 18 := ⟨call_18⟩
theorem call_19 : okCall Tryd.prog 19 = true := by kernel_rfl
instance : CLT Tryd.prog 19 := ⟨call_19⟩
theorem call_20 : okCall Tryd.prog 20 = true := by kernel_rfl
instance : CLT Tryd.prog 20 := ⟨call_20⟩
theorem call_21 : okCall Tryd.prog 21 = true := by kernel_rfl
instance : CLT Tryd.prog 21 := ⟨call_21⟩
theorem call_22 : okCall Tryd.prog 22 = true := by kernel_rfl
instance : CLT Tryd.prog 22 := ⟨call_22⟩
theorem call_23 : okCall Tryd.prog 23 = true := by kernel_rfl
instance : CLT Tryd.prog 23 := ⟨call_23⟩
theorem call_24 : okCall Tryd.prog 24 = true := by kernel_rfl
instance : CLT Tryd.prog 24 := ⟨call_24⟩
theorem call_25 : okCall Tryd.prog 25 = true := by kernel_rfl
instance : CLT Tryd.prog 25 := ⟨call_25⟩
theorem call_26 : okCall Tryd.prog 26 = true := by kernel_rfl
instance : CLT Tryd.prog 26 := ⟨call_26⟩
theorem call_27 : okCall Tryd.prog 27 = true := by kernel_rfl
instance : CLT Tryd.prog 27 := ⟨call_27⟩
theorem call_28 : okCall Tryd.prog 28 = true := by kernel_rfl
instance : CLT Tryd.prog 28 := ⟨call_28⟩
theorem call_29 : okCall Tryd.prog 29 = true := by kernel_rfl
instance : CLT Tryd.prog 29 := ⟨call_29⟩
theorem call_30 : okCall Tryd.prog 30 = true := by kernel_rfl
instance : CLT Tryd.prog 30 := ⟨call_30⟩
theorem call_31 : okCall Tryd.prog 31 = true := by kernel_rfl
instance : CLT Tryd.prog 31 := ⟨call_31⟩
theorem call_32 : okCall Tryd.prog 32 = true := by kernel_rfl
instance : CLT Tryd.prog 32 := ⟨call_32⟩
theorem call_33 : okCall Tryd.prog 33 = true := by kernel_rfl
instance : CLT Tryd.prog 33 := ⟨call_33⟩
theorem call_34 : okCall Tryd.prog 34 = true := by kernel_rfl
instance : CLT Tryd.prog 34 := ⟨call_34⟩
theorem call_35 : okCall Tryd.prog 35 = true := by kernel_rfl
instance : CLT Tryd.prog 35 := ⟨call_35⟩
theorem call_36 : okCall Tryd.prog 36 = true := by kernel_rfl
instance : CLT Tryd.prog 36 := ⟨call_36⟩
theorem call_37 : okCall Tryd.prog 37 = true := by kernel_rfl
instance : CLT Tryd.prog 37 := ⟨call_37⟩
theorem call_38 : okCall Tryd.prog 38 = true := by kernel_rfl
instance : CLT Tryd.prog 38 := ⟨call_38⟩
theorem call_39 : okCall Tryd.prog 39 = true := by kernel_rfl
instance : CLT Tryd.prog 39 := ⟨call_39⟩
theorem call_40 : okCall Tryd.prog 40 = true := by kernel_rfl
instance : CLT Tryd.prog 40 := ⟨call_40⟩
theorem call_41 : okCall Tryd.prog 41 = true := by kernel_rfl
instance : CLT Tryd.prog 41 := ⟨call_41⟩
theorem call_42 : okCall Tryd.prog 42 = true := by kernel_rfl
instance : CLT Tryd.prog 42 := ⟨call_42⟩
theorem call_43 : okCall Tryd.prog 43 = true := by kernel_rfl
instance : CLT Tryd.prog 43 := ⟨call_43⟩
theorem call_44 : okCall Tryd.prog 44 = true := by kernel_rfl
instance : CLT Tryd.prog 44 := ⟨call_44⟩
theorem call_45 : okCall Tryd.prog 45 = true := by kernel_rfl
instance : CLT Tryd.prog 45 := ⟨call_45⟩
theorem call_46 : okCall Tryd.prog 46 = true := by kernel_rfl
instance : CLT Tryd.prog 46 := ⟨call_46⟩
theorem call_47 : okCall Tryd.prog 47 = true := by kernel_rfl
instance : CLT Tryd.prog 47 := ⟨call_47⟩
theorem call_48 : okCall Tryd.prog 48 = true := by kernel_rfl
instance : CLT Tryd.prog 48 := ⟨call_48⟩
theorem call_49 : okCall Tryd.prog 49 = true := by kernel_rfl
instance : CLT Tryd.prog 49 := ⟨call_49⟩
theorem call_50 : okCall Tryd.prog 50 = true := by kernel_rfl
instance : CLT Tryd.prog 50 := ⟨call_50⟩
theorem call_51 : okCall Tryd.prog 51 = true := by kernel_rfl
instance : CLT Tryd.prog 51 := ⟨call_51⟩
theorem call_52 : okCall Tryd.prog 52 = true := by kernel_rfl
instance : CLT Tryd.prog 52 := ⟨call_52⟩
theorem call_53 : okCall Tryd.prog 53 = true := by kernel_rfl
instance : CLT Tryd.prog 53 := ⟨call_53⟩
theorem call_54 : okCall Tryd.prog 54 = true := by kernel_rfl
instance : CLT Tryd.prog 54 := ⟨call_54⟩
theorem call_55 : okCall Tryd.prog 55 = true := by kernel_rfl
instance : CLT Tryd.prog 55 := ⟨call_55⟩
theorem call_56 : okCall Tryd.prog 56 = true := by kernel_rfl
instance : CLT Tryd.prog 56 := ⟨call_56⟩
theorem call_57 : okCall Tryd.prog 57 = true := by kernel_rfl
instance : CLT Tryd.prog 57 := ⟨call_57⟩
theorem call_58 : okCall Tryd.prog 58 = true := by kernel_rfl
instance : CLT Tryd.prog 58 := ⟨call_58⟩
theorem call_59 : okCall Tryd.prog 59 = true := by kernel_rfl
instance : CLT Tryd.prog 59 := ⟨call_59⟩
theorem call_60 : okCall Tryd.prog 60 = true := by kernel_rfl
instance : CLT Tryd.prog 60 := ⟨call_60⟩
theorem call_61 : okCall Tryd.prog 61 = true := by kernel_rfl
instance : CLT Tryd.prog 61 := ⟨call_61⟩
theorem call_62 : okCall Tryd.prog 62 = true := by kernel_rfl
instance : CLT Tryd.prog 62 := ⟨call_62⟩
theorem call_63 : okCall Tryd.prog 63 = true := by kernel_rfl
instance : CLT Tryd.prog 63 := ⟨call_63⟩
theorem call_64 : okCall Tryd.prog 64 = true := by kernel_rfl
instance : CLT Tryd.prog 64 := ⟨call_64⟩
theorem call_65 : okCall Tryd.prog 65 = true := by kernel_rfl
instance : CLT Tryd.prog 65 := ⟨call_65⟩
theorem call_66 : okCall Tryd.prog 66 = true := by kernel_rfl
instance : CLT Tryd.prog 66 := ⟨call_66⟩
theorem call_67 : okCall Tryd.prog 67 = true := by kernel_rfl
instance : CLT Tryd.prog 67 := ⟨call_67⟩
theorem call_68 : okCall Tryd.prog 68 = true := by kernel_rfl
instance : CLT Tryd.prog 68 := ⟨call_68⟩
theorem call_69 : okCall Tryd.prog 69 = true := by kernel_rfl
instance : CLT Tryd.prog 69 := ⟨call_69⟩
theorem call_70 : okCall Tryd.prog 70 = true := by kernel_rfl
instance : CLT Tryd.prog 70 := ⟨call_70⟩
theorem call_71 : okCall Tryd.prog 71 = true := by kernel_rfl
instance : CLT Tryd.prog 71 := ⟨call_71⟩
theorem call_72 : okCall Tryd.prog 72 = true := by kernel_rfl
instance : CLT Tryd.prog 72 := ⟨call_72⟩
theorem call_73 : okCall Tryd.prog 73 = true := by kernel_rfl
instance : CLT Tryd.prog 73 := ⟨call_73⟩
theorem call_74 : okCall Tryd.prog 74 = true := by kernel_rfl
instance : CLT Tryd.prog 74 := ⟨call_74⟩
theorem call_75 : okCall Tryd.prog 75 = true := by kernel_rfl
instance : CLT Tryd.prog 75 := ⟨call_75⟩
theorem call_76 : okCall Tryd.prog 76 = true := by kernel_rfl
instance : CLT Tryd.prog 76 := ⟨call_76⟩
theorem call_77 : okCall Tryd.prog 77 = true := by kernel_rfl
instance : CLT Tryd.prog 77 := ⟨call_77⟩
theorem call_78 : okCall Tryd.prog 78 = true := by kernel_rfl
instance : CLT Tryd.prog 78 := ⟨call_78⟩
theorem call_79 : okCall Tryd.prog 79 = true := by kernel_rfl
instance : CLT Tryd.prog 79 := ⟨call_79⟩
theorem call_80 : okCall Tryd.prog 80 = true := by kernel_rfl
instance : CLT Tryd.prog 80 := ⟨call_80⟩
theorem call_81 : okCall Tryd.prog 81 = true := by kernel_rfl
instance : CLT Tryd.prog 81 := ⟨call_81⟩
theorem call_82 : okCall Tryd.prog 82 = true := by kernel_rfl
instance : CLT Tryd.prog 82 := ⟨call_82⟩
theorem call_83 : okCall Tryd.prog 83 = true := by kernel_rfl
instance : CLT Tryd.prog 83 := ⟨call_83⟩
theorem call_84 : okCall Tryd.prog 84 = true := by kernel_rfl
instance : CLT Tryd.prog 84 := ⟨call_84⟩
theorem call_85 : okCall Tryd.prog 85 = true := by kernel_rfl
instance : CLT Tryd.prog 85 := ⟨call_85⟩
theorem call_86 : okCall Tryd.prog 86 = true := by kernel_rfl
instance : CLT Tryd.prog 86 := ⟨call_86⟩
theorem call_87 : okCall Tryd.prog 87 = true := by kernel_rfl
instance : CLT Tryd.prog 87 := ⟨call_87⟩
theorem call_88 : okCall Tryd.prog 88 = true := by kernel_rfl
instance : CLT Tryd.prog 88 := ⟨call_88⟩
theorem call_89 : okCall Tryd.prog 89 = true := by kernel_rfl
instance : CLT Tryd.prog 89 := ⟨call_89⟩
theorem call_90 : okCall Tryd.prog 90 = true := by kernel_rfl
instance : CLT Tryd.prog 90 := ⟨call_90⟩
theorem call_91 : okCall Tryd.prog 91 = true := by kernel_rfl
instance : CLT Tryd.prog 91 := ⟨call_91⟩
theorem call_92 : okCall Tryd.prog 92 = true := by kernel_rfl
instance : CLT Tryd.prog 92 := ⟨call_92⟩
theorem call_93 : okCall Tryd.prog 93 = true := by kernel_rfl
instance : CLT Tryd.prog 93 := ⟨call_93⟩
theorem call_94 : okCall Tryd.prog 94 = true := by kernel_rfl
instance : CLT Tryd.prog 94 := ⟨call_94⟩
theorem call_95 : okCall Tryd.prog 95 = true := by kernel_rfl
instance : CLT Tryd.prog 95 := ⟨call_95⟩
theorem call_96 : okCall Tryd.prog 96 = true := by kernel_rfl
instance : CLT Tryd.prog 96 := ⟨call_96⟩
theorem call_97 : okCall Tryd.prog 97 = true := by kernel_rfl
instance : CLT Tryd.prog 97 := ⟨call_97⟩
theorem call_98 : okCall Tryd.prog 98 = true := by kernel_rfl
instance : CLT Tryd.prog 98 := ⟨call_98⟩
theorem call_99 : okCall Tryd.prog 99 = true := by kernel_rfl
instance : CLT Tryd.prog 99 := ⟨call_99⟩
theorem call_100 : okCall Tryd.prog 100 = true := by kernel_rfl
instance : CLT Tryd.prog 100 := ⟨call_100⟩
theorem call_101 : okCall Tryd.prog 101 = true := by kernel_rfl
instance : CLT Tryd.prog 101 := ⟨call_101⟩
theorem call_102 : okCall Tryd.prog 102 = true := by kernel_rfl
instance : CLT Tryd.prog 102 := ⟨call_102⟩
theorem call_103 : okCall Tryd.prog 103 = true := by kernel_rfl
instance : CLT Tryd.prog 103 := ⟨call_103⟩
theorem call_104 : okCall Tryd.prog 104 = true := by kernel_rfl
instance : CLT Tryd.prog 104 := ⟨call_104⟩
theorem call_105 : okCall Tryd.prog 105 = true := by kernel_rfl
instance : CLT Tryd.prog 105 := ⟨call_105⟩
theorem call_106 : okCall Tryd.prog 106 = true := by kernel_rfl
instance : CLT Tryd.prog 106 := ⟨call_106⟩
theorem call_107 : okCall Tryd.prog 107 = true := by kernel_rfl
instance : CLT Tryd.prog 107 := ⟨call_107⟩
theorem call_108 : okCall Tryd.prog 108 = true := by kernel_rfl
instance : CLT Tryd.prog 108 := ⟨call_108⟩
theorem call_109 : okCall Tryd.prog 109 = true := by kernel_rfl
instance : CLT Tryd.prog 109 := ⟨call_109⟩
theorem call_110 : okCall Tryd.prog 110 = true := by kernel_rfl
instance : CLT Tryd.prog 110 := ⟨call_110⟩
theorem call_111 : okCall Tryd.prog 111 = true := by kernel_rfl
instance : CLT Tryd.prog 111 := ⟨call_111⟩
theorem call_112 : okCall Tryd.prog 112 = true := by kernel_rfl
instance : CLT Tryd.prog 112 := ⟨call_112⟩
theorem call_113 : okCall Tryd.prog 113 = true := by kernel_rfl
instance : CLT Tryd.prog 113 := ⟨call_113⟩
theorem call_114 : okCall Tryd.prog 114 = true := by kernel_rfl
instance : CLT Tryd.prog 114 := ⟨call_114⟩
theorem call_115 : okCall Tryd.prog 115 = true := by kernel_rfl
instance : CLT Tryd.prog 115 := ⟨call_115⟩
theorem call_116 : okCall Tryd.prog 116 = true := by kernel_rfl
instance : CLT Tryd.prog 116 := ⟨call_116⟩
theorem call_117 : okCall Tryd.prog 117 = true := by kernel_rfl
instance : CLT Tryd.prog 117 := ⟨call_117⟩
theorem call_119 : okCall Tryd.prog 119 = true := by kernel_rfl
instance : CLT Tryd.prog 119 := ⟨call_119⟩
theorem call_120 : okCall Tryd.prog 120 = true := by kernel_rfl
instance : CLT Tryd.prog 120 := ⟨call_120⟩
theorem call_121 : okCall Tryd.prog 121 = true := by kernel_rfl
instance : CLT Tryd.prog 121 := ⟨call_121⟩
theorem call_122 : okCall Tryd.prog 122 = true := by kernel_rfl
instance : CLT Tryd.prog 122 := ⟨call_122⟩
theorem call_123 : okCall Tryd.prog 123 = true := by kernel_rfl
instance : CLT Tryd.prog 123 := ⟨call_123⟩
theorem call_124 : okCall Tryd.prog 124 = true := by kernel_rfl
instance : CLT Tryd.prog 124 := ⟨call_124⟩
theorem call_125 : okCall Tryd.prog 125 = true := by kernel_rfl
instance : CLT Tryd.prog 125 := ⟨call_125⟩
theorem call_126 : okCall Tryd.prog 126 = true := by kernel_rfl
instance : CLT Tryd.prog 126 := ⟨call_126⟩
theorem call_127 : okCall Tryd.prog 127 = true := by kernel_rfl
instance : CLT Tryd.prog 127 := ⟨call_127⟩
theorem call_128 : okCall Tryd.prog 128 = true := by kernel_rfl
instance : CLT Tryd.prog 128 := ⟨call_128⟩
theorem call_129 : okCall Tryd.prog 129 = true := by kernel_rfl
instance : CLT Tryd.prog 129 := ⟨call_129⟩
theorem call_130 : okCall Tryd.prog 130 = true := by kernel_rfl
instance : CLT Tryd.prog 130 := ⟨call_130⟩
theorem call_131 : okCall Tryd.prog 131 = true := by kernel_rfl
instance : CLT Tryd.prog 131 := ⟨call_131⟩
theorem call_132 : okCall Tryd.prog 132 = true := by kernel_rfl
instance : CLT Tryd.prog 132 := ⟨call_132⟩
theorem call_133 : okCall Tryd.prog 133 = true := by kernel_rfl
instance : CLT Tryd.prog 133 := ⟨call_133⟩
theorem call_134 : okCall Tryd.prog 134 = true := by kernel_rfl
instance : CLT Tryd.prog 134 := ⟨call_134⟩
theorem call_135 : okCall Tryd.prog 135 = true := by kernel_rfl
instance : CLT Tryd.prog 135 := ⟨call_135⟩
theorem call_136 : okCall Tryd.prog 136 = true := by kernel_rfl
instance : CLT Tryd.prog 136 := ⟨call_136⟩
theorem call_137 : okCall Tryd.prog 137 = true := by kernel_rfl
instance : CLT Tryd.prog 137 := ⟨call_137⟩
theorem call_138 : okCall Tryd.prog 138 = true := by kernel_rfl
instance : CLT Tryd.prog 138 := ⟨call_138⟩
theorem call_139 : okCall Tryd.prog 139 = true := by kernel_rfl
instance : CLT Tryd.prog 139 := ⟨call_139⟩
theorem call_140 : okCall Tryd.prog 140 = true := by kernel_rfl
instance : CLT Tryd.prog 140 := ⟨call_140⟩
theorem call_141 : okCall Tryd.prog 141 = true := by kernel_rfl
instance : CLT Tryd.prog 141 := ⟨call_141⟩
theorem call_142 : okCall Tryd.prog 142 = true := by kernel_rfl
instance : CLT Tryd.prog 142 := ⟨call_142⟩
theorem call_143 : okCall Tryd.prog 143 = true := by kernel_rfl
instance : CLT Tryd.prog 143 := ⟨call_143⟩
theorem call_144 : okCall Tryd.prog 144 = true := by kernel_rfl
instance : CLT Tryd.prog 144 := ⟨call_144⟩
theorem call_145 : okCall Tryd.prog 145 = true := by kernel_rfl
instance : CLT Tryd.prog 145 := ⟨call_145⟩
theorem call_146 : okCall Tryd.prog 146 = true := by kernel_rfl
instance : CLT Tryd.prog 146 := ⟨call_146⟩
theorem call_147 : okCall Tryd.prog 147 = true := by kernel_rfl
instance : CLT Tryd.prog 147 := ⟨call_147⟩
theorem call_148 : okCall Tryd.prog 148 = true := by kernel_rfl
instance : CLT Tryd.prog 148 := ⟨call_148⟩
theorem call_149 : okCall Tryd.prog 149 = true := by kernel_rfl
instance : CLT Tryd.prog 149 := ⟨call_149⟩
theorem call_183 : okCall Tryd.prog 183 = true := by kernel_rfl
instance : CLT Tryd.prog 183 := ⟨call_183⟩
theorem call_205 : okCall Tryd.prog 205 = true := by kernel_rfl
instance : CLT Tryd.prog 205 := ⟨call_205⟩

end Ty
end Go.Proofs.YtkgbbnhdioghmaaDoor
