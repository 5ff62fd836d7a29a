/- Closed facts of the translation's tables, by program (facts.py). -/
import Derived.Test.YtapcnajfbippmaaDoorEngT
import Derived.Test.YtapcnajfbippmaaDoorProg
namespace Go.Proofs.YtapcnajfbippmaaDoor
open Go
namespace Ty

theorem sz_3 : szT Tryd.prog 3 = some 1 := by kernel_rfl
instance : SZ Tryd.prog 3 1 := ⟨sz_3⟩
theorem row_3 : rowT Tryd.prog 3 = some false := by kernel_rfl
instance : RO Tryd.prog 3 := ⟨row_3⟩
theorem sz_4 : szT Tryd.prog 4 = some 1 := by kernel_rfl
instance : SZ Tryd.prog 4 1 := ⟨sz_4⟩
theorem row_4 : rowT Tryd.prog 4 = some false := by kernel_rfl
instance : RO Tryd.prog 4 := ⟨row_4⟩
theorem sz_5 : szT Tryd.prog 5 = some 1 := by kernel_rfl
instance : SZ Tryd.prog 5 1 := ⟨sz_5⟩
theorem row_5 : rowT Tryd.prog 5 = some false := by kernel_rfl
instance : RO Tryd.prog 5 := ⟨row_5⟩
theorem sz_23 : szT Tryd.prog 23 = some 1 := by kernel_rfl
instance : SZ Tryd.prog 23 1 := ⟨sz_23⟩
theorem row_23 : rowT Tryd.prog 23 = some false := by kernel_rfl
instance : RO Tryd.prog 23 := ⟨row_23⟩
theorem sz_27 : szT Tryd.prog 27 = some 1 := by kernel_rfl
instance : SZ Tryd.prog 27 1 := ⟨sz_27⟩
theorem row_27 : rowT Tryd.prog 27 = some false := by kernel_rfl
instance : RO Tryd.prog 27 := ⟨row_27⟩
theorem sz_31 : szT Tryd.prog 31 = some 64 := by kernel_rfl
instance : SZ Tryd.prog 31 64 := ⟨sz_31⟩
theorem row_31 : rowT Tryd.prog 31 = some true := by kernel_rfl
instance : RA Tryd.prog 31 := ⟨row_31⟩
theorem sz_36 : szT Tryd.prog 36 = some 1 := by kernel_rfl
instance : SZ Tryd.prog 36 1 := ⟨sz_36⟩
theorem row_36 : rowT Tryd.prog 36 = some false := by kernel_rfl
instance : RO Tryd.prog 36 := ⟨row_36⟩
theorem sz_50 : szT Tryd.prog 50 = some 4 := by kernel_rfl
instance : SZ Tryd.prog 50 4 := ⟨sz_50⟩
theorem row_50 : rowT Tryd.prog 50 = some true := by kernel_rfl
instance : RA Tryd.prog 50 := ⟨row_50⟩
theorem sz_55 : szT Tryd.prog 55 = some 1 := by kernel_rfl
instance : SZ Tryd.prog 55 1 := ⟨sz_55⟩
theorem row_55 : rowT Tryd.prog 55 = some false := by kernel_rfl
instance : RO Tryd.prog 55 := ⟨row_55⟩
theorem sz_57 : szT Tryd.prog 57 = some 5 := by kernel_rfl
instance : SZ Tryd.prog 57 5 := ⟨sz_57⟩
theorem row_57 : rowT Tryd.prog 57 = some true := by kernel_rfl
instance : RA Tryd.prog 57 := ⟨row_57⟩
theorem sz_60 : szT Tryd.prog 60 = some 1 := by kernel_rfl
instance : SZ Tryd.prog 60 1 := ⟨sz_60⟩
theorem row_60 : rowT Tryd.prog 60 = some false := by kernel_rfl
instance : RO Tryd.prog 60 := ⟨row_60⟩
theorem sz_62 : szT Tryd.prog 62 = some 5 := by kernel_rfl
instance : SZ Tryd.prog 62 5 := ⟨sz_62⟩
theorem row_62 : rowT Tryd.prog 62 = some true := by kernel_rfl
instance : RA Tryd.prog 62 := ⟨row_62⟩
theorem sz_100 : szT Tryd.prog 100 = some 1 := by kernel_rfl
instance : SZ Tryd.prog 100 1 := ⟨sz_100⟩
theorem row_100 : rowT Tryd.prog 100 = some false := by kernel_rfl
instance : RO Tryd.prog 100 := ⟨row_100⟩
theorem sz_133 : szT Tryd.prog 133 = some 1 := by kernel_rfl
instance : SZ Tryd.prog 133 1 := ⟨sz_133⟩
theorem row_133 : rowT Tryd.prog 133 = some true := by kernel_rfl
instance : RA Tryd.prog 133 := ⟨row_133⟩
theorem zc_3 : zcT Tryd.prog 3 = some ([.int .i64 0]) := by kernel_rfl
instance : ZC Tryd.prog 3 ([.int .i64 0]) := ⟨zc_3⟩
theorem zc_4 : zcT Tryd.prog 4 = some ([.bool false]) := by kernel_rfl
instance : ZC Tryd.prog 4 ([.bool false]) := ⟨zc_4⟩
theorem zc_5 : zcT Tryd.prog 5 = some ([.int .u8 0]) := by kernel_rfl
instance : ZC Tryd.prog 5 ([.int .u8 0]) := ⟨zc_5⟩
theorem zc_23 : zcT Tryd.prog 23 = some ([.slice none 0 0]) := by kernel_rfl
instance : ZC Tryd.prog 23 ([.slice none 0 0]) := ⟨zc_23⟩
theorem zc_27 : zcT Tryd.prog 27 = some ([.nilIface]) := by kernel_rfl
instance : ZC Tryd.prog 27 ([.nilIface]) := ⟨zc_27⟩
theorem zc_31 : zcT Tryd.prog 31 = some ((List.replicate 64 (.int .u8 0))) := by kernel_rfl
instance : ZC Tryd.prog 31 ((List.replicate 64 (.int .u8 0))) := ⟨zc_31⟩
theorem zc_36 : zcT Tryd.prog 36 = some ([.slice none 0 0]) := by kernel_rfl
instance : ZC Tryd.prog 36 ([.slice none 0 0]) := ⟨zc_36⟩
theorem zc_50 : zcT Tryd.prog 50 = some ([.int .i64 0, .int .i64 0, .int .u8 0, .slice none 0 0]) := by kernel_rfl
instance : ZC Tryd.prog 50 ([.int .i64 0, .int .i64 0, .int .u8 0, .slice none 0 0]) := ⟨zc_50⟩
theorem zc_55 : zcT Tryd.prog 55 = some ([.slice none 0 0]) := by kernel_rfl
instance : ZC Tryd.prog 55 ([.slice none 0 0]) := ⟨zc_55⟩
theorem zc_57 : zcT Tryd.prog 57 = some ([.slice none 0 0, .slice none 0 0, .slice none 0 0, .bool false, .int .i64 0]) := by kernel_rfl
instance : ZC Tryd.prog 57 ([.slice none 0 0, .slice none 0 0, .slice none 0 0, .bool false, .int .i64 0]) := ⟨zc_57⟩
theorem zc_60 : zcT Tryd.prog 60 = some ([.map none]) := by kernel_rfl
instance : ZC Tryd.prog 60 ([.map none]) := ⟨zc_60⟩
theorem zc_62 : zcT Tryd.prog 62 = some ([.slice none 0 0, .map none, .bool false, .bool false, .int .i64 0]) := by kernel_rfl
instance : ZC Tryd.prog 62 ([.slice none 0 0, .map none, .bool false, .bool false, .int .i64 0]) := ⟨zc_62⟩
theorem zc_100 : zcT Tryd.prog 100 = some ([.int .u64 0]) := by kernel_rfl
instance : ZC Tryd.prog 100 ([.int .u64 0]) := ⟨zc_100⟩
theorem zc_133 : zcT Tryd.prog 133 = some ([.string ByteArray.empty]) := by kernel_rfl
instance : ZC Tryd.prog 133 ([.string ByteArray.empty]) := ⟨zc_133⟩
theorem sl_22 : sliceT Tryd.prog 22 = some 5 := by kernel_rfl
instance : SLT Tryd.prog 22 5 := ⟨sl_22⟩
theorem sl_23 : sliceT Tryd.prog 23 = some 4 := by kernel_rfl
instance : SLT Tryd.prog 23 4 := ⟨sl_23⟩
theorem arr_31 : arrT Tryd.prog 31 = some (64, 5) := by kernel_rfl
instance : ART Tryd.prog 31 64 5 := ⟨arr_31⟩
theorem sl_36 : sliceT Tryd.prog 36 = some 3 := by kernel_rfl
instance : SLT Tryd.prog 36 3 := ⟨sl_36⟩
theorem sl_46 : sliceT Tryd.prog 46 = some 50 := by kernel_rfl
instance : SLT Tryd.prog 46 50 := ⟨sl_46⟩
theorem sl_55 : sliceT Tryd.prog 55 = some 31 := by kernel_rfl
instance : SLT Tryd.prog 55 31 := ⟨sl_55⟩
theorem sl_69 : sliceT Tryd.prog 69 = some 27 := by kernel_rfl
instance : SLT Tryd.prog 69 27 := ⟨sl_69⟩
theorem el_22 : ElemT Tryd.prog 22 5 1 1 := elemT_of (by kernel_rfl)
instance : ELT Tryd.prog 22 5 1 1 := ⟨el_22⟩
theorem el_23 : ElemT Tryd.prog 23 4 1 1 := elemT_of (by kernel_rfl)
instance : ELT Tryd.prog 23 4 1 1 := ⟨el_23⟩
theorem el_36 : ElemT Tryd.prog 36 3 1 8 := elemT_of (by kernel_rfl)
instance : ELT Tryd.prog 36 3 1 8 := ⟨el_36⟩
theorem el_46 : ElemT Tryd.prog 46 50 4 48 := elemT_of (by kernel_rfl)
instance : ELT Tryd.prog 46 50 4 48 := ⟨el_46⟩
theorem el_55 : ElemT Tryd.prog 55 31 64 64 := elemT_of (by kernel_rfl)
instance : ELT Tryd.prog 55 31 64 64 := ⟨el_55⟩
theorem el_69 : ElemT Tryd.prog 69 27 1 16 := elemT_of (by kernel_rfl)
instance : ELT Tryd.prog 69 27 1 16 := ⟨el_69⟩
theorem un_3 : Tryd.prog.underlying 3 = some (.int .i64) := by kernel_rfl
instance : UNT Tryd.prog 3 (.int .i64) := ⟨un_3⟩
theorem un_4 : Tryd.prog.underlying 4 = some (.bool) := by kernel_rfl
instance : UNT Tryd.prog 4 (.bool) := ⟨un_4⟩
theorem un_5 : Tryd.prog.underlying 5 = some (.int .u8) := by kernel_rfl
instance : UNT Tryd.prog 5 (.int .u8) := ⟨un_5⟩
theorem un_25 : Tryd.prog.underlying 25 = some (.pointer 62) := by kernel_rfl
instance : UNT Tryd.prog 25 (.pointer 62) := ⟨un_25⟩
theorem ifc_27 : ifcT Tryd.prog 27 = true := by kernel_rfl
instance : IFT Tryd.prog 27 := ⟨ifc_27⟩
theorem un_31 : Tryd.prog.underlying 31 = some (.array 64 5) := by kernel_rfl
instance : UNT Tryd.prog 31 (.array 64 5) := ⟨un_31⟩
theorem un_40 : Tryd.prog.underlying 40 = some (.int .u64) := by kernel_rfl
instance : UNT Tryd.prog 40 (.int .u64) := ⟨un_40⟩
theorem pl_57 : placesT Tryd.prog 57 = some [(0, 1), (1, 1), (2, 1), (3, 1), (4, 1)] := by kernel_rfl
instance : PLT Tryd.prog 57 [(0, 1), (1, 1), (2, 1), (3, 1), (4, 1)] := ⟨pl_57⟩
theorem un_60 : Tryd.prog.underlying 60 = some (.map 3 31) := by kernel_rfl
instance : UNT Tryd.prog 60 (.map 3 31) := ⟨un_60⟩
theorem pl_62 : placesT Tryd.prog 62 = some [(0, 1), (1, 1), (2, 1), (3, 1), (4, 1)] := by kernel_rfl
instance : PLT Tryd.prog 62 [(0, 1), (1, 1), (2, 1), (3, 1), (4, 1)] := ⟨pl_62⟩
theorem un_89 : Tryd.prog.underlying 89 = some (.int .i64) := by kernel_rfl
instance : UNT Tryd.prog 89 (.int .i64) := ⟨un_89⟩
theorem un_97 : Tryd.prog.underlying 97 = some (.int .u32) := by kernel_rfl
instance : UNT Tryd.prog 97 (.int .u32) := ⟨un_97⟩
theorem un_99 : Tryd.prog.underlying 99 = some (.int .u64) := by kernel_rfl
instance : UNT Tryd.prog 99 (.int .u64) := ⟨un_99⟩
theorem un_100 : Tryd.prog.underlying 100 = some (.int .u64) := by kernel_rfl
instance : UNT Tryd.prog 100 (.int .u64) := ⟨un_100⟩
theorem un_109 : Tryd.prog.underlying 109 = some (.pointer 133) := by kernel_rfl
instance : UNT Tryd.prog 109 (.pointer 133) := ⟨un_109⟩
theorem pl_133 : placesT Tryd.prog 133 = some [(0, 1)] := by kernel_rfl
instance : PLT Tryd.prog 133 [(0, 1)] := ⟨pl_133⟩
theorem fo_50_0 : foff Tryd.prog 50 0 = some 0 := by kernel_rfl
instance : FO Tryd.prog 50 0 0 := ⟨fo_50_0⟩
theorem fo_50_1 : foff Tryd.prog 50 1 = some 1 := by kernel_rfl
instance : FO Tryd.prog 50 1 1 := ⟨fo_50_1⟩
theorem fo_50_2 : foff Tryd.prog 50 2 = some 2 := by kernel_rfl
instance : FO Tryd.prog 50 2 2 := ⟨fo_50_2⟩
theorem fo_50_3 : foff Tryd.prog 50 3 = some 3 := by kernel_rfl
instance : FO Tryd.prog 50 3 3 := ⟨fo_50_3⟩
theorem fo_57_0 : foff Tryd.prog 57 0 = some 0 := by kernel_rfl
instance : FO Tryd.prog 57 0 0 := ⟨fo_57_0⟩
theorem fo_57_1 : foff Tryd.prog 57 1 = some 1 := by kernel_rfl
instance : FO Tryd.prog 57 1 1 := ⟨fo_57_1⟩
theorem fo_57_2 : foff Tryd.prog 57 2 = some 2 := by kernel_rfl
instance : FO Tryd.prog 57 2 2 := ⟨fo_57_2⟩
theorem fo_57_3 : foff Tryd.prog 57 3 = some 3 := by kernel_rfl
instance : FO Tryd.prog 57 3 3 := ⟨fo_57_3⟩
theorem fo_57_4 : foff Tryd.prog 57 4 = some 4 := by kernel_rfl
instance : FO Tryd.prog 57 4 4 := ⟨fo_57_4⟩
theorem fo_62_0 : foff Tryd.prog 62 0 = some 0 := by kernel_rfl
instance : FO Tryd.prog 62 0 0 := ⟨fo_62_0⟩
theorem fo_62_1 : foff Tryd.prog 62 1 = some 1 := by kernel_rfl
instance : FO Tryd.prog 62 1 1 := ⟨fo_62_1⟩
theorem fo_62_2 : foff Tryd.prog 62 2 = some 2 := by kernel_rfl
instance : FO Tryd.prog 62 2 2 := ⟨fo_62_2⟩
theorem fo_62_3 : foff Tryd.prog 62 3 = some 3 := by kernel_rfl
instance : FO Tryd.prog 62 3 3 := ⟨fo_62_3⟩
theorem fo_62_4 : foff Tryd.prog 62 4 = some 4 := by kernel_rfl
instance : FO Tryd.prog 62 4 4 := ⟨fo_62_4⟩
theorem call_3 : okCall Tryd.prog 3 = true := by kernel_rfl
instance : CLT Tryd.prog 3 := ⟨call_3⟩
theorem call_4 : okCall Tryd.prog 4 = true := by kernel_rfl
instance : CLT Tryd.prog 4 := ⟨call_4⟩
theorem call_5 : okCall Tryd.prog 5 = true := by kernel_rfl
instance : CLT Tryd.prog 5 := ⟨call_5⟩
theorem call_6 : okCall Tryd.prog 6 = true := by kernel_rfl
instance : CLT Tryd.prog 6 := ⟨call_6⟩
theorem call_7 : okCall Tryd.prog 7 = true := by kernel_rfl
instance : CLT Tryd.prog 7 := ⟨call_7⟩
theorem call_8 : okCall Tryd.prog 8 = true := by kernel_rfl
instance : CLT Tryd.prog 8 := ⟨call_8⟩
theorem call_9 : okCall Tryd.prog 9 = true := by kernel_rfl
instance : CLT Tryd.prog 9 := ⟨call_9⟩
theorem call_10 : okCall Tryd.prog 10 = true := by kernel_rfl
instance : CLT Tryd.prog 10 := ⟨call_10⟩
theorem call_11 : okCall Tryd.prog 11 = true := by kernel_rfl
instance : CLT Tryd.prog 11 := ⟨call_11⟩
theorem call_12 : okCall Tryd.prog 12 = true := by kernel_rfl
instance : CLT Tryd.prog 12 := ⟨call_12⟩
theorem call_13 : okCall Tryd.prog 13 = true := by kernel_rfl
instance : CLT Tryd.prog 13 := ⟨call_13⟩
theorem call_14 : okCall Tryd.prog 14 = true := by kernel_rfl
instance : CLT Tryd.prog 14 := ⟨call_14⟩
theorem call_15 : okCall Tryd.prog 15 = true := by kernel_rfl
instance : CLT Tryd.prog 15 := ⟨call_15⟩
theorem call_16 : okCall Tryd.prog 16 = true := by kernel_rfl
instance : CLT Tryd.prog 16 := ⟨call_16⟩
theorem call_17 : okCall Tryd.prog 17 = true := by kernel_rfl
instance : CLT Tryd.prog 17 := ⟨call_17⟩
theorem call_18 : okCall Tryd.prog 18 = true := by kernel_rfl
instance : CLT Tryd.prog 18 := ⟨call_18⟩
theorem call_19 : okCall Tryd.prog 19 = true := by kernel_rfl
instance : CLT Tryd.prog 19 := ⟨call_19⟩
theorem call_20 : okCall Tryd.prog 20 = true := by kernel_rfl
instance : CLT Tryd.prog 20 := ⟨call_20⟩
theorem call_21 : okCall Tryd.prog 21 = true := by kernel_rfl
instance : CLT Tryd.prog 21 := ⟨call_21⟩
theorem call_22 : okCall Tryd.prog 22 = true := by kernel_rfl
instance : CLT Tryd.prog 22 := ⟨call_22⟩
theorem call_23 : okCall Tryd.prog 23 = true := by kernel_rfl
instance : CLT Tryd.prog 23 := ⟨call_23⟩
theorem call_24 : okCall Tryd.prog 24 = true := by kernel_rfl
instance : CLT Tryd.prog 24 := ⟨call_24⟩
theorem call_25 : okCall Tryd.prog 25 = true := by kernel_rfl
instance : CLT Tryd.prog 25 := ⟨call_25⟩
theorem call_26 : okCall Tryd.prog 26 = true := by kernel_rfl
instance : CLT Tryd.prog 26 := ⟨call_26⟩
theorem call_27 : okCall Tryd.prog 27 = true := by kernel_rfl
instance : CLT Tryd.prog 27 := ⟨call_27⟩
theorem call_28 : okCall Tryd.prog 28 = true := by kernel_rfl
instance : CLT Tryd.prog 28 := ⟨call_28⟩
theorem call_29 : okCall Tryd.prog 29 = true := by kernel_rfl
instance : CLT Tryd.prog 29 := ⟨call_29⟩
theorem call_30 : okCall Tryd.prog 30 = true := by kernel_rfl
instance : CLT Tryd.prog 30 := ⟨call_30⟩
theorem call_31 : okCall Tryd.prog 31 = true := by kernel_rfl
instance : CLT Tryd.prog 31 := ⟨call_31⟩
theorem call_32 : okCall Tryd.prog 32 = true := by kernel_rfl
instance : CLT Tryd.prog 32 := ⟨call_32⟩
theorem call_33 : okCall Tryd.prog 33 = true := by kernel_rfl
instance : CLT Tryd.prog 33 := ⟨call_33⟩
theorem call_34 : okCall Tryd.prog 34 = true := by kernel_rfl
instance : CLT Tryd.prog 34 := ⟨call_34⟩
theorem call_35 : okCall Tryd.prog 35 = true := by kernel_rfl
instance : CLT Tryd.prog 35 := ⟨call_35⟩
theorem call_36 : okCall Tryd.prog 36 = true := by kernel_rfl
instance : CLT Tryd.prog 36 := ⟨call_36⟩
theorem call_38 : okCall Tryd.prog 38 = true := by kernel_rfl
instance : CLT Tryd.prog 38 := ⟨call_38⟩
theorem call_39 : okCall Tryd.prog 39 = true := by kernel_rfl
instance : CLT Tryd.prog 39 := ⟨call_39⟩
theorem call_40 : okCall Tryd.prog 40 = true := by kernel_rfl
instance : CLT Tryd.prog 40 := ⟨call_40⟩
theorem call_41 : okCall Tryd.prog 41 = true := by kernel_rfl
instance : CLT Tryd.prog 41 := ⟨call_41⟩
theorem call_42 : okCall Tryd.prog 42 = true := by kernel_rfl
instance : CLT Tryd.prog 42 := ⟨call_42⟩
theorem call_43 : okCall Tryd.prog 43 = true := by kernel_rfl
instance : CLT Tryd.prog 43 := ⟨call_43⟩
theorem call_44 : okCall Tryd.prog 44 = true := by kernel_rfl
instance : CLT Tryd.prog 44 := ⟨call_44⟩
theorem call_45 : okCall Tryd.prog 45 = true := by kernel_rfl
instance : CLT Tryd.prog 45 := ⟨call_45⟩
theorem call_46 : okCall Tryd.prog 46 = true := by kernel_rfl
instance : CLT Tryd.prog 46 := ⟨call_46⟩
theorem call_47 : okCall Tryd.prog 47 = true := by kernel_rfl
instance : CLT Tryd.prog 47 := ⟨call_47⟩
theorem call_48 : okCall Tryd.prog 48 = true := by kernel_rfl
instance : CLT Tryd.prog 48 := ⟨call_48⟩
theorem call_49 : okCall Tryd.prog 49 = true := by kernel_rfl
instance : CLT Tryd.prog 49 := ⟨call_49⟩
theorem call_50 : okCall Tryd.prog 50 = true := by kernel_rfl
instance : CLT Tryd.prog 50 := ⟨call_50⟩
theorem call_51 : okCall Tryd.prog 51 = true := by kernel_rfl
instance : CLT Tryd.prog 51 := ⟨call_51⟩
theorem call_52 : okCall Tryd.prog 52 = true := by kernel_rfl
instance : CLT Tryd.prog 52 := ⟨call_52⟩
theorem call_53 : okCall Tryd.prog 53 = true := by kernel_rfl
instance : CLT Tryd.prog 53 := ⟨call_53⟩
theorem call_54 : okCall Tryd.prog 54 = true := by kernel_rfl
instance : CLT Tryd.prog 54 := ⟨call_54⟩
theorem call_55 : okCall Tryd.prog 55 = true := by kernel_rfl
instance : CLT Tryd.prog 55 := ⟨call_55⟩
theorem call_56 : okCall Tryd.prog 56 = true := by kernel_rfl
instance : CLT Tryd.prog 56 := ⟨call_56⟩
theorem call_57 : okCall Tryd.prog 57 = true := by kernel_rfl
instance : CLT Tryd.prog 57 := ⟨call_57⟩
theorem call_58 : okCall Tryd.prog 58 = true := by kernel_rfl
instance : CLT Tryd.prog 58 := ⟨call_58⟩
theorem call_59 : okCall Tryd.prog 59 = true := by kernel_rfl
instance : CLT Tryd.prog 59 := ⟨call_59⟩
theorem call_90 : okCall Tryd.prog 90 = true := by kernel_rfl
instance : CLT Tryd.prog 90 := ⟨call_90⟩
theorem call_111 : okCall Tryd.prog 111 = true := by kernel_rfl
instance : CLT Tryd.prog 111 := ⟨call_111⟩

end Ty
end Go.Proofs.YtapcnajfbippmaaDoor
