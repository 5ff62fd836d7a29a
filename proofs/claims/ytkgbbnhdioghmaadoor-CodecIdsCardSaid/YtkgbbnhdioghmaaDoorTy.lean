/- Closed facts of the translation's tables, by program (facts.py). -/
import Derived.Test.YtkgbbnhdioghmaaDoorEngT
import Derived.Test.YtkgbbnhdioghmaaDoorProg
namespace Go.Proofs.YtkgbbnhdioghmaaDoor
open Go
namespace Ty

theorem sz_3 : szT Tryd.prog 3 = some 1 := by kernel_rfl
theorem row_3 : rowT Tryd.prog 3 = some false := by kernel_rfl
theorem sz_4 : szT Tryd.prog 4 = some 1 := by kernel_rfl
theorem row_4 : rowT Tryd.prog 4 = some false := by kernel_rfl
theorem sz_5 : szT Tryd.prog 5 = some 1 := by kernel_rfl
theorem row_5 : rowT Tryd.prog 5 = some false := by kernel_rfl
theorem sz_9 : szT Tryd.prog 9 = some 1 := by kernel_rfl
theorem row_9 : rowT Tryd.prog 9 = some false := by kernel_rfl
theorem sz_23 : szT Tryd.prog 23 = some 16 := by kernel_rfl
theorem row_23 : rowT Tryd.prog 23 = some true := by kernel_rfl
theorem sz_24 : szT Tryd.prog 24 = some 1 := by kernel_rfl
theorem row_24 : rowT Tryd.prog 24 = some false := by kernel_rfl
theorem sz_26 : szT Tryd.prog 26 = some 19 := by kernel_rfl
theorem row_26 : rowT Tryd.prog 26 = some true := by kernel_rfl
theorem sz_27 : szT Tryd.prog 27 = some 1 := by kernel_rfl
theorem row_27 : rowT Tryd.prog 27 = some false := by kernel_rfl
theorem sz_28 : szT Tryd.prog 28 = some 1 := by kernel_rfl
theorem row_28 : rowT Tryd.prog 28 = some false := by kernel_rfl
theorem sz_30 : szT Tryd.prog 30 = some 39 := by kernel_rfl
theorem row_30 : rowT Tryd.prog 30 = some true := by kernel_rfl
theorem sz_33 : szT Tryd.prog 33 = some 1 := by kernel_rfl
theorem row_33 : rowT Tryd.prog 33 = some false := by kernel_rfl
theorem sz_35 : szT Tryd.prog 35 = some 1 := by kernel_rfl
theorem row_35 : rowT Tryd.prog 35 = some false := by kernel_rfl
theorem sz_45 : szT Tryd.prog 45 = some 1 := by kernel_rfl
theorem row_45 : rowT Tryd.prog 45 = some false := by kernel_rfl
theorem sz_47 : szT Tryd.prog 47 = some 3 := by kernel_rfl
theorem row_47 : rowT Tryd.prog 47 = some true := by kernel_rfl
theorem sz_49 : szT Tryd.prog 49 = some 4 := by kernel_rfl
theorem row_49 : rowT Tryd.prog 49 = some true := by kernel_rfl
theorem sz_51 : szT Tryd.prog 51 = some 22 := by kernel_rfl
theorem row_51 : rowT Tryd.prog 51 = some true := by kernel_rfl
theorem sz_52 : szT Tryd.prog 52 = some 1 := by kernel_rfl
theorem row_52 : rowT Tryd.prog 52 = some false := by kernel_rfl
theorem sz_54 : szT Tryd.prog 54 = some 3 := by kernel_rfl
theorem row_54 : rowT Tryd.prog 54 = some true := by kernel_rfl
theorem sz_56 : szT Tryd.prog 56 = some 28 := by kernel_rfl
theorem row_56 : rowT Tryd.prog 56 = some true := by kernel_rfl
theorem sz_58 : szT Tryd.prog 58 = some 46 := by kernel_rfl
theorem row_58 : rowT Tryd.prog 58 = some true := by kernel_rfl
theorem sz_60 : szT Tryd.prog 60 = some 32 := by kernel_rfl
theorem row_60 : rowT Tryd.prog 60 = some true := by kernel_rfl
theorem sz_62 : szT Tryd.prog 62 = some 39 := by kernel_rfl
theorem row_62 : rowT Tryd.prog 62 = some true := by kernel_rfl
theorem sz_63 : szT Tryd.prog 63 = some 117 := by kernel_rfl
theorem row_63 : rowT Tryd.prog 63 = some true := by kernel_rfl
theorem sz_65 : szT Tryd.prog 65 = some 136 := by kernel_rfl
theorem row_65 : rowT Tryd.prog 65 = some true := by kernel_rfl
theorem sz_67 : szT Tryd.prog 67 = some 304 := by kernel_rfl
theorem row_67 : rowT Tryd.prog 67 = some true := by kernel_rfl
theorem sz_75 : szT Tryd.prog 75 = some 1 := by kernel_rfl
theorem row_75 : rowT Tryd.prog 75 = some false := by kernel_rfl
theorem sz_86 : szT Tryd.prog 86 = some 17 := by kernel_rfl
theorem row_86 : rowT Tryd.prog 86 = some true := by kernel_rfl
theorem sz_105 : szT Tryd.prog 105 = some 1 := by kernel_rfl
theorem row_105 : rowT Tryd.prog 105 = some false := by kernel_rfl
theorem sz_107 : szT Tryd.prog 107 = some 1 := by kernel_rfl
theorem row_107 : rowT Tryd.prog 107 = some true := by kernel_rfl
theorem sz_124 : szT Tryd.prog 124 = some 1 := by kernel_rfl
theorem row_124 : rowT Tryd.prog 124 = some false := by kernel_rfl
theorem sz_126 : szT Tryd.prog 126 = some 1 := by kernel_rfl
theorem row_126 : rowT Tryd.prog 126 = some true := by kernel_rfl
theorem sz_136 : szT Tryd.prog 136 = some 1 := by kernel_rfl
theorem row_136 : rowT Tryd.prog 136 = some false := by kernel_rfl
theorem sz_137 : szT Tryd.prog 137 = some 1 := by kernel_rfl
theorem row_137 : rowT Tryd.prog 137 = some false := by kernel_rfl
theorem sz_139 : szT Tryd.prog 139 = some 19 := by kernel_rfl
theorem row_139 : rowT Tryd.prog 139 = some true := by kernel_rfl
theorem sz_148 : szT Tryd.prog 148 = some 1 := by kernel_rfl
theorem row_148 : rowT Tryd.prog 148 = some false := by kernel_rfl
theorem sz_171 : szT Tryd.prog 171 = some 32 := by kernel_rfl
theorem row_171 : rowT Tryd.prog 171 = some true := by kernel_rfl
theorem sz_176 : szT Tryd.prog 176 = some 1 := by kernel_rfl
theorem row_176 : rowT Tryd.prog 176 = some false := by kernel_rfl
theorem sz_178 : szT Tryd.prog 178 = some 5 := by kernel_rfl
theorem row_178 : rowT Tryd.prog 178 = some true := by kernel_rfl
theorem sz_183 : szT Tryd.prog 183 = some 2 := by kernel_rfl
theorem row_183 : rowT Tryd.prog 183 = some true := by kernel_rfl
theorem sz_195 : szT Tryd.prog 195 = some 2 := by kernel_rfl
theorem row_195 : rowT Tryd.prog 195 = some true := by kernel_rfl
theorem sz_209 : szT Tryd.prog 209 = some 1 := by kernel_rfl
theorem row_209 : rowT Tryd.prog 209 = some false := by kernel_rfl
theorem sz_210 : szT Tryd.prog 210 = some 8 := by kernel_rfl
theorem row_210 : rowT Tryd.prog 210 = some true := by kernel_rfl
theorem sz_211 : szT Tryd.prog 211 = some 8 := by kernel_rfl
theorem row_211 : rowT Tryd.prog 211 = some true := by kernel_rfl
theorem sz_214 : szT Tryd.prog 214 = some 10 := by kernel_rfl
theorem row_214 : rowT Tryd.prog 214 = some true := by kernel_rfl
theorem sz_215 : szT Tryd.prog 215 = some 64 := by kernel_rfl
theorem row_215 : rowT Tryd.prog 215 = some true := by kernel_rfl
theorem zc_3 : zcT Tryd.prog 3 = some ([.int .i64 0]) := by kernel_rfl
theorem zc_4 : zcT Tryd.prog 4 = some ([.bool false]) := by kernel_rfl
theorem zc_5 : zcT Tryd.prog 5 = some ([.int .u8 0]) := by kernel_rfl
theorem zc_9 : zcT Tryd.prog 9 = some ([.string ByteArray.empty]) := by kernel_rfl
theorem zc_23 : zcT Tryd.prog 23 = some (zD) := by kernel_rfl
theorem zc_24 : zcT Tryd.prog 24 = some ([.slice none 0 0]) := by kernel_rfl
theorem zc_26 : zcT Tryd.prog 26 = some ([.int .i64 0, .int .i64 0] ++ (zD ++ ([.slice none 0 0]))) := by kernel_rfl
theorem zc_27 : zcT Tryd.prog 27 = some ([.slice none 0 0]) := by kernel_rfl
theorem zc_28 : zcT Tryd.prog 28 = some ([.slice none 0 0]) := by kernel_rfl
theorem zc_30 : zcT Tryd.prog 30 = some ([.int .i64 0, .int .i64 0] ++ (zD ++ ([.int .i64 0, .int .i64 0] ++ (zD ++ ([.slice none 0 0, .slice none 0 0, .slice none 0 0]))))) := by kernel_rfl
theorem zc_33 : zcT Tryd.prog 33 = some ([.slice none 0 0]) := by kernel_rfl
theorem zc_35 : zcT Tryd.prog 35 = some ([.nilIface]) := by kernel_rfl
theorem zc_45 : zcT Tryd.prog 45 = some ([.slice none 0 0]) := by kernel_rfl
theorem zc_47 : zcT Tryd.prog 47 = some ([.int .i64 0, .slice none 0 0, .slice none 0 0]) := by kernel_rfl
theorem zc_49 : zcT Tryd.prog 49 = some ([.int .i64 0, .int .i64 0, .slice none 0 0, .slice none 0 0]) := by kernel_rfl
theorem zc_51 : zcT Tryd.prog 51 = some ([.int .i64 0, .int .i64 0] ++ (zD ++ ([.int .i64 0, .int .i64 0, .slice none 0 0, .slice none 0 0]))) := by kernel_rfl
theorem zc_52 : zcT Tryd.prog 52 = some ([.slice none 0 0]) := by kernel_rfl
theorem zc_54 : zcT Tryd.prog 54 = some ([.int .i64 0, .int .i64 0, .slice none 0 0]) := by kernel_rfl
theorem zc_56 : zcT Tryd.prog 56 = some ([.int .i64 0, .int .i64 0, .int .i64 0, .int .i64 0] ++ (zD ++ ([.slice none 0 0, .int .i64 0, .int .i64 0, .slice none 0 0, .int .i64 0, .int .i64 0, .slice none 0 0, .slice none 0 0]))) := by kernel_rfl
theorem zc_58 : zcT Tryd.prog 58 = some ([.int .i64 0, .int .i64 0] ++ (zD ++ ([.int .i64 0, .int .i64 0] ++ (zD ++ ([.slice none 0 0, .slice none 0 0, .slice none 0 0, .int .i64 0, .int .i64 0, .slice none 0 0, .int .i64 0, .int .i64 0, .slice none 0 0, .slice none 0 0]))))) := by kernel_rfl
theorem zc_60 : zcT Tryd.prog 60 = some (zD ++ (zD)) := by kernel_rfl
theorem zc_62 : zcT Tryd.prog 62 = some ([.int .i64 0, .int .i64 0] ++ (zD ++ ([.int .i64 0, .int .i64 0] ++ (zD ++ ([.slice none 0 0, .slice none 0 0, .slice none 0 0]))))) := by kernel_rfl
theorem zc_63 : zcT Tryd.prog 63 = some ([.int .i64 0, .int .i64 0] ++ (zD ++ ([.int .i64 0, .int .i64 0] ++ (zD ++ ([.slice none 0 0, .slice none 0 0, .slice none 0 0, .int .i64 0, .int .i64 0] ++ (zD ++ ([.int .i64 0, .int .i64 0] ++ (zD ++ ([.slice none 0 0, .slice none 0 0, .slice none 0 0, .int .i64 0, .int .i64 0] ++ (zD ++ ([.int .i64 0, .int .i64 0] ++ (zD ++ ([.slice none 0 0, .slice none 0 0, .slice none 0 0]))))))))))))) := by kernel_rfl
theorem zc_65 : zcT Tryd.prog 65 = some ([.int .i64 0, .int .i64 0] ++ (zD ++ ([.int .i64 0, .int .i64 0] ++ (zD ++ ([.slice none 0 0, .slice none 0 0, .slice none 0 0, .int .i64 0, .int .i64 0] ++ (zD ++ ([.int .i64 0, .int .i64 0] ++ (zD ++ ([.slice none 0 0, .slice none 0 0, .slice none 0 0, .int .i64 0, .int .i64 0] ++ (zD ++ ([.int .i64 0, .int .i64 0] ++ (zD ++ ([.slice none 0 0, .slice none 0 0, .slice none 0 0, .int .i64 0, .int .i64 0] ++ (zD ++ ([.slice none 0 0]))))))))))))))) := by kernel_rfl
theorem zc_67 : zcT Tryd.prog 67 = some ([.int .i64 0, .int .i64 0, .int .i64 0] ++ (zD ++ ([.int .i64 0, .int .i64 0, .slice none 0 0, .slice none 0 0, .int .i64 0, .int .i64 0, .int .i64 0, .int .i64 0] ++ (zD ++ ([.slice none 0 0, .int .i64 0, .int .i64 0, .slice none 0 0, .int .i64 0, .int .i64 0, .slice none 0 0, .slice none 0 0, .int .i64 0, .int .i64 0] ++ (zD ++ ([.int .i64 0, .int .i64 0] ++ (zD ++ ([.slice none 0 0, .slice none 0 0, .slice none 0 0, .int .i64 0, .int .i64 0, .slice none 0 0, .int .i64 0, .int .i64 0, .slice none 0 0, .slice none 0 0] ++ (zD ++ (zD ++ ([.int .i64 0, .int .i64 0] ++ (zD ++ ([.int .i64 0, .int .i64 0] ++ (zD ++ ([.slice none 0 0, .slice none 0 0, .slice none 0 0, .int .i64 0, .int .i64 0] ++ (zD ++ ([.int .i64 0, .int .i64 0] ++ (zD ++ ([.slice none 0 0, .slice none 0 0, .slice none 0 0, .int .i64 0, .int .i64 0] ++ (zD ++ ([.int .i64 0, .int .i64 0] ++ (zD ++ ([.slice none 0 0, .slice none 0 0, .slice none 0 0, .int .i64 0, .int .i64 0] ++ (zD ++ ([.int .i64 0, .int .i64 0] ++ (zD ++ ([.slice none 0 0, .slice none 0 0, .slice none 0 0, .int .i64 0, .int .i64 0] ++ (zD ++ ([.slice none 0 0])))))))))))))))))))))))))))))) := by kernel_rfl
theorem zc_75 : zcT Tryd.prog 75 = some ([.pointer none]) := by kernel_rfl
theorem zc_86 : zcT Tryd.prog 86 = some (zD ++ ([.int .i64 0])) := by kernel_rfl
theorem zc_105 : zcT Tryd.prog 105 = some ([.pointer none]) := by kernel_rfl
theorem zc_107 : zcT Tryd.prog 107 = some ([.pointer none]) := by kernel_rfl
theorem zc_124 : zcT Tryd.prog 124 = some ([.pointer none]) := by kernel_rfl
theorem zc_126 : zcT Tryd.prog 126 = some ([.pointer none]) := by kernel_rfl
theorem zc_136 : zcT Tryd.prog 136 = some ([.map none]) := by kernel_rfl
theorem zc_137 : zcT Tryd.prog 137 = some ([.slice none 0 0]) := by kernel_rfl
theorem zc_139 : zcT Tryd.prog 139 = some (zD ++ ([.map none, .slice none 0 0, .slice none 0 0])) := by kernel_rfl
theorem zc_148 : zcT Tryd.prog 148 = some ([.map none]) := by kernel_rfl
theorem zc_171 : zcT Tryd.prog 171 = some ((List.replicate 32 (.int .u8 0))) := by kernel_rfl
theorem zc_176 : zcT Tryd.prog 176 = some ([.int .u64 0]) := by kernel_rfl
theorem zc_178 : zcT Tryd.prog 178 = some ([.int .i64 0, .int .i64 0, .int .i64 0, .slice none 0 0, .slice none 0 0]) := by kernel_rfl
theorem zc_183 : zcT Tryd.prog 183 = some ([.nilIface, .slice none 0 0]) := by kernel_rfl
theorem zc_195 : zcT Tryd.prog 195 = some ([.nilIface, .slice none 0 0]) := by kernel_rfl
theorem zc_209 : zcT Tryd.prog 209 = some ([.int .u32 0]) := by kernel_rfl
theorem zc_210 : zcT Tryd.prog 210 = some ((List.replicate 8 (.int .u32 0))) := by kernel_rfl
theorem zc_211 : zcT Tryd.prog 211 = some ((List.replicate 8 (.int .u32 0))) := by kernel_rfl
theorem zc_214 : zcT Tryd.prog 214 = some ((List.replicate 8 (.int .u32 0)) ++ ([.slice none 0 0, .int .u64 0])) := by kernel_rfl
theorem zc_215 : zcT Tryd.prog 215 = some ((List.replicate 64 (.int .u32 0))) := by kernel_rfl
theorem arr_23 : arrT Tryd.prog 23 = some (16, 5) := by kernel_rfl
theorem sl_24 : sliceT Tryd.prog 24 = some 49 := by kernel_rfl
theorem sl_27 : sliceT Tryd.prog 27 = some 33 := by kernel_rfl
theorem sl_28 : sliceT Tryd.prog 28 = some 86 := by kernel_rfl
theorem sl_33 : sliceT Tryd.prog 33 = some 5 := by kernel_rfl
theorem sl_45 : sliceT Tryd.prog 45 = some 23 := by kernel_rfl
theorem sl_52 : sliceT Tryd.prog 52 = some 178 := by kernel_rfl
theorem arr_63 : arrT Tryd.prog 63 = some (3, 30) := by kernel_rfl
theorem sl_74 : sliceT Tryd.prog 74 = some 3 := by kernel_rfl
theorem sl_78 : sliceT Tryd.prog 78 = some 30 := by kernel_rfl
theorem sl_137 : sliceT Tryd.prog 137 = some 26 := by kernel_rfl
theorem sl_142 : sliceT Tryd.prog 142 = some 35 := by kernel_rfl
theorem arr_171 : arrT Tryd.prog 171 = some (32, 5) := by kernel_rfl
theorem sl_173 : sliceT Tryd.prog 173 = some 9 := by kernel_rfl
theorem arr_210 : arrT Tryd.prog 210 = some (8, 209) := by kernel_rfl
theorem arr_211 : arrT Tryd.prog 211 = some (8, 209) := by kernel_rfl
theorem arr_215 : arrT Tryd.prog 215 = some (64, 209) := by kernel_rfl
theorem el_24 : ElemT Tryd.prog 24 49 4 64 := elemT_of (by kernel_rfl)
theorem el_27 : ElemT Tryd.prog 27 33 1 24 := elemT_of (by kernel_rfl)
theorem el_28 : ElemT Tryd.prog 28 86 17 24 := elemT_of (by kernel_rfl)
theorem el_33 : ElemT Tryd.prog 33 5 1 1 := elemT_of (by kernel_rfl)
theorem el_45 : ElemT Tryd.prog 45 23 16 16 := elemT_of (by kernel_rfl)
theorem el_52 : ElemT Tryd.prog 52 178 5 72 := elemT_of (by kernel_rfl)
theorem el_74 : ElemT Tryd.prog 74 3 1 8 := elemT_of (by kernel_rfl)
theorem el_78 : ElemT Tryd.prog 78 30 39 136 := elemT_of (by kernel_rfl)
theorem el_137 : ElemT Tryd.prog 137 26 19 56 := elemT_of (by kernel_rfl)
theorem el_142 : ElemT Tryd.prog 142 35 1 16 := elemT_of (by kernel_rfl)
theorem el_173 : ElemT Tryd.prog 173 9 1 16 := elemT_of (by kernel_rfl)
theorem un_3 : Tryd.prog.underlying 3 = some (.int .i64) := by kernel_rfl
theorem un_4 : Tryd.prog.underlying 4 = some (.bool) := by kernel_rfl
theorem un_5 : Tryd.prog.underlying 5 = some (.int .u8) := by kernel_rfl
theorem un_9 : Tryd.prog.underlying 9 = some (.string) := by kernel_rfl
theorem un_23 : Tryd.prog.underlying 23 = some (.array 16 5) := by kernel_rfl
theorem pl_26 : placesT Tryd.prog 26 = some [(0, 1), (1, 1), (2, 16), (18, 1)] := by kernel_rfl
theorem un_28 : Tryd.prog.underlying 28 = some (.slice 86) := by kernel_rfl
theorem pl_30 : placesT Tryd.prog 30 = some [(0, 1), (1, 1), (2, 16), (18, 19), (37, 1), (38, 1)] := by kernel_rfl
theorem un_33 : Tryd.prog.underlying 33 = some (.slice 5) := by kernel_rfl
theorem ifc_35 : ifcT Tryd.prog 35 = true := by kernel_rfl
theorem un_45 : Tryd.prog.underlying 45 = some (.slice 23) := by kernel_rfl
theorem pl_47 : placesT Tryd.prog 47 = some [(0, 1), (1, 1), (2, 1)] := by kernel_rfl
theorem pl_49 : placesT Tryd.prog 49 = some [(0, 1), (1, 3)] := by kernel_rfl
theorem pl_60 : placesT Tryd.prog 60 = some [(0, 16), (16, 16)] := by kernel_rfl
theorem pl_67 : placesT Tryd.prog 67 = some [(0, 1), (1, 22), (23, 28), (51, 46), (97, 32), (129, 39), (168, 136)] := by kernel_rfl
theorem un_75 : Tryd.prog.underlying 75 = some (.pointer 139) := by kernel_rfl
theorem un_80 : Tryd.prog.underlying 80 = some (.int .u64) := by kernel_rfl
theorem pl_86 : placesT Tryd.prog 86 = some [(0, 16), (16, 1)] := by kernel_rfl
theorem pl_107 : placesT Tryd.prog 107 = some [(0, 1)] := by kernel_rfl
theorem pl_126 : placesT Tryd.prog 126 = some [(0, 1)] := by kernel_rfl
theorem un_136 : Tryd.prog.underlying 136 = some (.map 23 30) := by kernel_rfl
theorem pl_139 : placesT Tryd.prog 139 = some [(0, 16), (16, 1), (17, 1), (18, 1)] := by kernel_rfl
theorem un_148 : Tryd.prog.underlying 148 = some (.map 23 4) := by kernel_rfl
theorem un_171 : Tryd.prog.underlying 171 = some (.array 32 5) := by kernel_rfl
theorem un_176 : Tryd.prog.underlying 176 = some (.int .u64) := by kernel_rfl
theorem pl_183 : placesT Tryd.prog 183 = some [(0, 1), (1, 1)] := by kernel_rfl
theorem pl_195 : placesT Tryd.prog 195 = some [(0, 1), (1, 1)] := by kernel_rfl
theorem un_209 : Tryd.prog.underlying 209 = some (.int .u32) := by kernel_rfl
theorem un_210 : Tryd.prog.underlying 210 = some (.array 8 209) := by kernel_rfl
theorem un_211 : Tryd.prog.underlying 211 = some (.array 8 209) := by kernel_rfl
theorem pl_214 : placesT Tryd.prog 214 = some [(0, 8), (8, 1), (9, 1)] := by kernel_rfl
theorem un_215 : Tryd.prog.underlying 215 = some (.array 64 209) := by kernel_rfl
theorem fo_26_0 : foff Tryd.prog 26 0 = some 0 := by kernel_rfl
theorem fo_26_1 : foff Tryd.prog 26 1 = some 1 := by kernel_rfl
theorem fo_26_2 : foff Tryd.prog 26 2 = some 2 := by kernel_rfl
theorem fo_26_3 : foff Tryd.prog 26 3 = some 18 := by kernel_rfl
theorem fo_30_0 : foff Tryd.prog 30 0 = some 0 := by kernel_rfl
theorem fo_30_1 : foff Tryd.prog 30 1 = some 1 := by kernel_rfl
theorem fo_30_2 : foff Tryd.prog 30 2 = some 2 := by kernel_rfl
theorem fo_30_3 : foff Tryd.prog 30 3 = some 18 := by kernel_rfl
theorem fo_30_4 : foff Tryd.prog 30 4 = some 37 := by kernel_rfl
theorem fo_30_5 : foff Tryd.prog 30 5 = some 38 := by kernel_rfl
theorem fo_47_0 : foff Tryd.prog 47 0 = some 0 := by kernel_rfl
theorem fo_47_1 : foff Tryd.prog 47 1 = some 1 := by kernel_rfl
theorem fo_47_2 : foff Tryd.prog 47 2 = some 2 := by kernel_rfl
theorem fo_49_0 : foff Tryd.prog 49 0 = some 0 := by kernel_rfl
theorem fo_49_1 : foff Tryd.prog 49 1 = some 1 := by kernel_rfl
theorem fo_51_0 : foff Tryd.prog 51 0 = some 0 := by kernel_rfl
theorem fo_51_1 : foff Tryd.prog 51 1 = some 1 := by kernel_rfl
theorem fo_51_2 : foff Tryd.prog 51 2 = some 2 := by kernel_rfl
theorem fo_51_3 : foff Tryd.prog 51 3 = some 18 := by kernel_rfl
theorem fo_54_0 : foff Tryd.prog 54 0 = some 0 := by kernel_rfl
theorem fo_54_1 : foff Tryd.prog 54 1 = some 1 := by kernel_rfl
theorem fo_54_2 : foff Tryd.prog 54 2 = some 2 := by kernel_rfl
theorem fo_56_0 : foff Tryd.prog 56 0 = some 0 := by kernel_rfl
theorem fo_56_1 : foff Tryd.prog 56 1 = some 1 := by kernel_rfl
theorem fo_56_2 : foff Tryd.prog 56 2 = some 2 := by kernel_rfl
theorem fo_56_3 : foff Tryd.prog 56 3 = some 21 := by kernel_rfl
theorem fo_56_4 : foff Tryd.prog 56 4 = some 24 := by kernel_rfl
theorem fo_58_0 : foff Tryd.prog 58 0 = some 0 := by kernel_rfl
theorem fo_58_1 : foff Tryd.prog 58 1 = some 39 := by kernel_rfl
theorem fo_58_2 : foff Tryd.prog 58 2 = some 42 := by kernel_rfl
theorem fo_60_0 : foff Tryd.prog 60 0 = some 0 := by kernel_rfl
theorem fo_60_1 : foff Tryd.prog 60 1 = some 16 := by kernel_rfl
theorem fo_62_0 : foff Tryd.prog 62 0 = some 0 := by kernel_rfl
theorem fo_65_0 : foff Tryd.prog 65 0 = some 0 := by kernel_rfl
theorem fo_65_1 : foff Tryd.prog 65 1 = some 117 := by kernel_rfl
theorem fo_67_0 : foff Tryd.prog 67 0 = some 0 := by kernel_rfl
theorem fo_67_1 : foff Tryd.prog 67 1 = some 1 := by kernel_rfl
theorem fo_67_2 : foff Tryd.prog 67 2 = some 23 := by kernel_rfl
theorem fo_67_3 : foff Tryd.prog 67 3 = some 51 := by kernel_rfl
theorem fo_67_4 : foff Tryd.prog 67 4 = some 97 := by kernel_rfl
theorem fo_67_5 : foff Tryd.prog 67 5 = some 129 := by kernel_rfl
theorem fo_67_6 : foff Tryd.prog 67 6 = some 168 := by kernel_rfl
theorem fo_86_0 : foff Tryd.prog 86 0 = some 0 := by kernel_rfl
theorem fo_86_1 : foff Tryd.prog 86 1 = some 16 := by kernel_rfl
theorem fo_107_0 : foff Tryd.prog 107 0 = some 0 := by kernel_rfl
theorem fo_126_0 : foff Tryd.prog 126 0 = some 0 := by kernel_rfl
theorem fo_139_0 : foff Tryd.prog 139 0 = some 0 := by kernel_rfl
theorem fo_139_1 : foff Tryd.prog 139 1 = some 16 := by kernel_rfl
theorem fo_139_2 : foff Tryd.prog 139 2 = some 17 := by kernel_rfl
theorem fo_139_3 : foff Tryd.prog 139 3 = some 18 := by kernel_rfl
theorem fo_178_0 : foff Tryd.prog 178 0 = some 0 := by kernel_rfl
theorem fo_178_1 : foff Tryd.prog 178 1 = some 1 := by kernel_rfl
theorem fo_178_2 : foff Tryd.prog 178 2 = some 2 := by kernel_rfl
theorem fo_181_0 : foff Tryd.prog 181 0 = some 0 := by kernel_rfl
theorem fo_183_0 : foff Tryd.prog 183 0 = some 0 := by kernel_rfl
theorem fo_183_1 : foff Tryd.prog 183 1 = some 1 := by kernel_rfl
theorem fo_195_0 : foff Tryd.prog 195 0 = some 0 := by kernel_rfl
theorem fo_195_1 : foff Tryd.prog 195 1 = some 1 := by kernel_rfl
theorem fo_214_0 : foff Tryd.prog 214 0 = some 0 := by kernel_rfl
theorem fo_214_1 : foff Tryd.prog 214 1 = some 8 := by kernel_rfl
theorem fo_214_2 : foff Tryd.prog 214 2 = some 9 := by kernel_rfl
theorem call_3 : okCall Tryd.prog 3 = true := by kernel_rfl
theorem call_4 : okCall Tryd.prog 4 = true := by kernel_rfl
theorem call_5 : okCall Tryd.prog 5 = true := by kernel_rfl
theorem call_6 : okCall Tryd.prog 6 = true := by kernel_rfl
theorem call_7 : okCall Tryd.prog 7 = true := by kernel_rfl
theorem call_8 : okCall Tryd.prog 8 = true := by kernel_rfl
theorem call_9 : okCall Tryd.prog 9 = true := by kernel_rfl
theorem call_10 : okCall Tryd.prog 10 = true := by kernel_rfl
theorem call_11 : okCall Tryd.prog 11 = true := by kernel_rfl
theorem call_12 : okCall Tryd.prog 12 = true := by kernel_rfl
theorem call_13 : okCall Tryd.prog 13 = true := by kernel_rfl
theorem call_14 : okCall Tryd.prog 14 = true := by kernel_rfl
theorem call_15 : okCall Tryd.prog 15 = true := by kernel_rfl
theorem call_16 : okCall Tryd.prog 16 = true := by kernel_rfl
theorem call_17 : okCall Tryd.prog 17 = true := by kernel_rfl
theorem call_18 : okCall Tryd.prog 18 = true := by kernel_rfl
theorem call_19 : okCall Tryd.prog 19 = true := by kernel_rfl
theorem call_20 : okCall Tryd.prog 20 = true := by kernel_rfl
theorem call_21 : okCall Tryd.prog 21 = true := by kernel_rfl
theorem call_22 : okCall Tryd.prog 22 = true := by kernel_rfl
theorem call_23 : okCall Tryd.prog 23 = true := by kernel_rfl
theorem call_24 : okCall Tryd.prog 24 = true := by kernel_rfl
theorem call_25 : okCall Tryd.prog 25 = true := by kernel_rfl
theorem call_26 : okCall Tryd.prog 26 = true := by kernel_rfl
theorem call_27 : okCall Tryd.prog 27 = true := by kernel_rfl
theorem call_28 : okCall Tryd.prog 28 = true := by kernel_rfl
theorem call_29 : okCall Tryd.prog 29 = true := by kernel_rfl
theorem call_30 : okCall Tryd.prog 30 = true := by kernel_rfl
theorem call_31 : okCall Tryd.prog 31 = true := by kernel_rfl
theorem call_32 : okCall Tryd.prog 32 = true := by kernel_rfl
theorem call_33 : okCall Tryd.prog 33 = true := by kernel_rfl
theorem call_34 : okCall Tryd.prog 34 = true := by kernel_rfl
theorem call_35 : okCall Tryd.prog 35 = true := by kernel_rfl
theorem call_36 : okCall Tryd.prog 36 = true := by kernel_rfl
theorem call_37 : okCall Tryd.prog 37 = true := by kernel_rfl
theorem call_38 : okCall Tryd.prog 38 = true := by kernel_rfl
theorem call_39 : okCall Tryd.prog 39 = true := by kernel_rfl
theorem call_40 : okCall Tryd.prog 40 = true := by kernel_rfl
theorem call_41 : okCall Tryd.prog 41 = true := by kernel_rfl
theorem call_42 : okCall Tryd.prog 42 = true := by kernel_rfl
theorem call_43 : okCall Tryd.prog 43 = true := by kernel_rfl
theorem call_44 : okCall Tryd.prog 44 = true := by kernel_rfl
theorem call_45 : okCall Tryd.prog 45 = true := by kernel_rfl
theorem call_46 : okCall Tryd.prog 46 = true := by kernel_rfl
theorem call_47 : okCall Tryd.prog 47 = true := by kernel_rfl
theorem call_48 : okCall Tryd.prog 48 = true := by kernel_rfl
theorem call_49 : okCall Tryd.prog 49 = true := by kernel_rfl
theorem call_50 : okCall Tryd.prog 50 = true := by kernel_rfl
theorem call_51 : okCall Tryd.prog 51 = true := by kernel_rfl
theorem call_52 : okCall Tryd.prog 52 = true := by kernel_rfl
theorem call_53 : okCall Tryd.prog 53 = true := by kernel_rfl
theorem call_54 : okCall Tryd.prog 54 = true := by kernel_rfl
theorem call_55 : okCall Tryd.prog 55 = true := by kernel_rfl
theorem call_56 : okCall Tryd.prog 56 = true := by kernel_rfl
theorem call_57 : okCall Tryd.prog 57 = true := by kernel_rfl
theorem call_58 : okCall Tryd.prog 58 = true := by kernel_rfl
theorem call_59 : okCall Tryd.prog 59 = true := by kernel_rfl
theorem call_60 : okCall Tryd.prog 60 = true := by kernel_rfl
theorem call_61 : okCall Tryd.prog 61 = true := by kernel_rfl
theorem call_62 : okCall Tryd.prog 62 = true := by kernel_rfl
theorem call_63 : okCall Tryd.prog 63 = true := by kernel_rfl
theorem call_64 : okCall Tryd.prog 64 = true := by kernel_rfl
theorem call_65 : okCall Tryd.prog 65 = true := by kernel_rfl
theorem call_66 : okCall Tryd.prog 66 = true := by kernel_rfl
theorem call_67 : okCall Tryd.prog 67 = true := by kernel_rfl
theorem call_68 : okCall Tryd.prog 68 = true := by kernel_rfl
theorem call_69 : okCall Tryd.prog 69 = true := by kernel_rfl
theorem call_70 : okCall Tryd.prog 70 = true := by kernel_rfl
theorem call_71 : okCall Tryd.prog 71 = true := by kernel_rfl
theorem call_72 : okCall Tryd.prog 72 = true := by kernel_rfl
theorem call_73 : okCall Tryd.prog 73 = true := by kernel_rfl
theorem call_74 : okCall Tryd.prog 74 = true := by kernel_rfl
theorem call_75 : okCall Tryd.prog 75 = true := by kernel_rfl
theorem call_76 : okCall Tryd.prog 76 = true := by kernel_rfl
theorem call_77 : okCall Tryd.prog 77 = true := by kernel_rfl
theorem call_78 : okCall Tryd.prog 78 = true := by kernel_rfl
theorem call_79 : okCall Tryd.prog 79 = true := by kernel_rfl
theorem call_80 : okCall Tryd.prog 80 = true := by kernel_rfl
theorem call_81 : okCall Tryd.prog 81 = true := by kernel_rfl
theorem call_82 : okCall Tryd.prog 82 = true := by kernel_rfl
theorem call_83 : okCall Tryd.prog 83 = true := by kernel_rfl
theorem call_84 : okCall Tryd.prog 84 = true := by kernel_rfl
theorem call_85 : okCall Tryd.prog 85 = true := by kernel_rfl
theorem call_86 : okCall Tryd.prog 86 = true := by kernel_rfl
theorem call_87 : okCall Tryd.prog 87 = true := by kernel_rfl
theorem call_88 : okCall Tryd.prog 88 = true := by kernel_rfl
theorem call_89 : okCall Tryd.prog 89 = true := by kernel_rfl
theorem call_90 : okCall Tryd.prog 90 = true := by kernel_rfl
theorem call_91 : okCall Tryd.prog 91 = true := by kernel_rfl
theorem call_92 : okCall Tryd.prog 92 = true := by kernel_rfl
theorem call_93 : okCall Tryd.prog 93 = true := by kernel_rfl
theorem call_94 : okCall Tryd.prog 94 = true := by kernel_rfl
theorem call_95 : okCall Tryd.prog 95 = true := by kernel_rfl
theorem call_96 : okCall Tryd.prog 96 = true := by kernel_rfl
theorem call_97 : okCall Tryd.prog 97 = true := by kernel_rfl
theorem call_98 : okCall Tryd.prog 98 = true := by kernel_rfl
theorem call_99 : okCall Tryd.prog 99 = true := by kernel_rfl
theorem call_100 : okCall Tryd.prog 100 = true := by kernel_rfl
theorem call_101 : okCall Tryd.prog 101 = true := by kernel_rfl
theorem call_102 : okCall Tryd.prog 102 = true := by kernel_rfl
theorem call_103 : okCall Tryd.prog 103 = true := by kernel_rfl
theorem call_104 : okCall Tryd.prog 104 = true := by kernel_rfl
theorem call_105 : okCall Tryd.prog 105 = true := by kernel_rfl
theorem call_106 : okCall Tryd.prog 106 = true := by kernel_rfl
theorem call_107 : okCall Tryd.prog 107 = true := by kernel_rfl
theorem call_108 : okCall Tryd.prog 108 = true := by kernel_rfl
theorem call_109 : okCall Tryd.prog 109 = true := by kernel_rfl
theorem call_110 : okCall Tryd.prog 110 = true := by kernel_rfl
theorem call_111 : okCall Tryd.prog 111 = true := by kernel_rfl
theorem call_112 : okCall Tryd.prog 112 = true := by kernel_rfl
theorem call_113 : okCall Tryd.prog 113 = true := by kernel_rfl
theorem call_114 : okCall Tryd.prog 114 = true := by kernel_rfl
theorem call_115 : okCall Tryd.prog 115 = true := by kernel_rfl
theorem call_116 : okCall Tryd.prog 116 = true := by kernel_rfl
theorem call_117 : okCall Tryd.prog 117 = true := by kernel_rfl
theorem call_119 : okCall Tryd.prog 119 = true := by kernel_rfl
theorem call_120 : okCall Tryd.prog 120 = true := by kernel_rfl
theorem call_121 : okCall Tryd.prog 121 = true := by kernel_rfl
theorem call_122 : okCall Tryd.prog 122 = true := by kernel_rfl
theorem call_123 : okCall Tryd.prog 123 = true := by kernel_rfl
theorem call_124 : okCall Tryd.prog 124 = true := by kernel_rfl
theorem call_125 : okCall Tryd.prog 125 = true := by kernel_rfl
theorem call_126 : okCall Tryd.prog 126 = true := by kernel_rfl
theorem call_127 : okCall Tryd.prog 127 = true := by kernel_rfl
theorem call_128 : okCall Tryd.prog 128 = true := by kernel_rfl
theorem call_129 : okCall Tryd.prog 129 = true := by kernel_rfl
theorem call_130 : okCall Tryd.prog 130 = true := by kernel_rfl
theorem call_131 : okCall Tryd.prog 131 = true := by kernel_rfl
theorem call_132 : okCall Tryd.prog 132 = true := by kernel_rfl
theorem call_133 : okCall Tryd.prog 133 = true := by kernel_rfl
theorem call_134 : okCall Tryd.prog 134 = true := by kernel_rfl
theorem call_135 : okCall Tryd.prog 135 = true := by kernel_rfl
theorem call_136 : okCall Tryd.prog 136 = true := by kernel_rfl
theorem call_137 : okCall Tryd.prog 137 = true := by kernel_rfl
theorem call_138 : okCall Tryd.prog 138 = true := by kernel_rfl
theorem call_139 : okCall Tryd.prog 139 = true := by kernel_rfl
theorem call_140 : okCall Tryd.prog 140 = true := by kernel_rfl
theorem call_141 : okCall Tryd.prog 141 = true := by kernel_rfl
theorem call_142 : okCall Tryd.prog 142 = true := by kernel_rfl
theorem call_143 : okCall Tryd.prog 143 = true := by kernel_rfl
theorem call_144 : okCall Tryd.prog 144 = true := by kernel_rfl
theorem call_145 : okCall Tryd.prog 145 = true := by kernel_rfl
theorem call_146 : okCall Tryd.prog 146 = true := by kernel_rfl
theorem call_147 : okCall Tryd.prog 147 = true := by kernel_rfl
theorem call_148 : okCall Tryd.prog 148 = true := by kernel_rfl
theorem call_149 : okCall Tryd.prog 149 = true := by kernel_rfl

end Ty
end Go.Proofs.YtkgbbnhdioghmaaDoor
