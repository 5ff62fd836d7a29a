/- Closed facts of the translation's tables, by program (facts.py). -/
import Derived.Test.YtffkjjakceojfaaDoorEngT
import Derived.Test.YtffkjjakceojfaaDoorProg
namespace Go.Proofs.YtffkjjakceojfaaDoor
open Go
namespace Ty

theorem sz_3 : szT Tryd.prog 3 = some 1 := by kernel_rfl
instance : SZ Tryd.prog 3 1 := ⟨sz_3⟩
theorem row_3 : rowT Tryd.prog 3 = some false := by kernel_rfl
instance : RO Tryd.prog 3 := ⟨row_3⟩
theorem sz_4 : szT Tryd.prog 4 = some 1 := by kernel_rfl
instance : SZ Tryd.prog 4 1 := ⟨sz_4⟩
theorem row_4 : rowT Tryd.prog 4 = some false := by kernel_rfl
instance : RO Tryd.prog 4 := ⟨row_4⟩
theorem sz_5 : szT Tryd.prog 5 = some 1 := by kernel_rfl
instance : SZ Tryd.prog 5 1 := ⟨sz_5⟩
theorem row_5 : rowT Tryd.prog 5 = some false := by kernel_rfl
instance : RO Tryd.prog 5 := ⟨row_5⟩
theorem sz_9 : szT Tryd.prog 9 = some 1 := by kernel_rfl
instance : SZ Tryd.prog 9 1 := ⟨sz_9⟩
theorem row_9 : rowT Tryd.prog 9 = some false := by kernel_rfl
instance : RO Tryd.prog 9 := ⟨row_9⟩
theorem sz_24 : szT Tryd.prog 24 = some 1 := by kernel_rfl
instance : SZ Tryd.prog 24 1 := ⟨sz_24⟩
theorem row_24 : rowT Tryd.prog 24 = some false := by kernel_rfl
instance : RO Tryd.prog 24 := ⟨row_24⟩
theorem sz_26 : szT Tryd.prog 26 = some 1 := by kernel_rfl
instance : SZ Tryd.prog 26 1 := ⟨sz_26⟩
theorem row_26 : rowT Tryd.prog 26 = some false := by kernel_rfl
instance : RO Tryd.prog 26 := ⟨row_26⟩
theorem sz_32 : szT Tryd.prog 32 = some 1 := by kernel_rfl
instance : SZ Tryd.prog 32 1 := ⟨sz_32⟩
theorem row_32 : rowT Tryd.prog 32 = some false := by kernel_rfl
instance : RO Tryd.prog 32 := ⟨row_32⟩
theorem sz_37 : szT Tryd.prog 37 = some 64 := by kernel_rfl
instance : SZ Tryd.prog 37 64 := ⟨sz_37⟩
theorem row_37 : rowT Tryd.prog 37 = some true := by kernel_rfl
instance : RA Tryd.prog 37 := ⟨row_37⟩
theorem sz_44 : szT Tryd.prog 44 = some 128 := by kernel_rfl
instance : SZ Tryd.prog 44 128 := ⟨sz_44⟩
theorem row_44 : rowT Tryd.prog 44 = some true := by kernel_rfl
instance : RA Tryd.prog 44 := ⟨row_44⟩
theorem sz_51 : szT Tryd.prog 51 = some 1 := by kernel_rfl
instance : SZ Tryd.prog 51 1 := ⟨sz_51⟩
theorem row_51 : rowT Tryd.prog 51 = some false := by kernel_rfl
instance : RO Tryd.prog 51 := ⟨row_51⟩
theorem sz_53 : szT Tryd.prog 53 = some 4 := by kernel_rfl
instance : SZ Tryd.prog 53 4 := ⟨sz_53⟩
theorem row_53 : rowT Tryd.prog 53 = some true := by kernel_rfl
instance : RA Tryd.prog 53 := ⟨row_53⟩
theorem sz_57 : szT Tryd.prog 57 = some 1 := by kernel_rfl
instance : SZ Tryd.prog 57 1 := ⟨sz_57⟩
theorem row_57 : rowT Tryd.prog 57 = some false := by kernel_rfl
instance : RO Tryd.prog 57 := ⟨row_57⟩
theorem sz_58 : szT Tryd.prog 58 = some 1 := by kernel_rfl
instance : SZ Tryd.prog 58 1 := ⟨sz_58⟩
theorem row_58 : rowT Tryd.prog 58 = some false := by kernel_rfl
instance : RO Tryd.prog 58 := ⟨row_58⟩
theorem sz_60 : szT Tryd.prog 60 = some 5 := by kernel_rfl
instance : SZ Tryd.prog 60 5 := ⟨sz_60⟩
theorem row_60 : rowT Tryd.prog 60 = some true := by kernel_rfl
instance : RA Tryd.prog 60 := ⟨row_60⟩
theorem sz_64 : szT Tryd.prog 64 = some 4 := by kernel_rfl
instance : SZ Tryd.prog 64 4 := ⟨sz_64⟩
theorem row_64 : rowT Tryd.prog 64 = some true := by kernel_rfl
instance : RA Tryd.prog 64 := ⟨row_64⟩
theorem sz_69 : szT Tryd.prog 69 = some 16 := by kernel_rfl
instance : SZ Tryd.prog 69 16 := ⟨sz_69⟩
theorem row_69 : rowT Tryd.prog 69 = some true := by kernel_rfl
instance : RA Tryd.prog 69 := ⟨row_69⟩
theorem sz_74 : szT Tryd.prog 74 = some 1 := by kernel_rfl
instance : SZ Tryd.prog 74 1 := ⟨sz_74⟩
theorem row_74 : rowT Tryd.prog 74 = some false := by kernel_rfl
instance : RO Tryd.prog 74 := ⟨row_74⟩
theorem sz_80 : szT Tryd.prog 80 = some 32 := by kernel_rfl
instance : SZ Tryd.prog 80 32 := ⟨sz_80⟩
theorem row_80 : rowT Tryd.prog 80 = some true := by kernel_rfl
instance : RA Tryd.prog 80 := ⟨row_80⟩
theorem sz_93 : szT Tryd.prog 93 = some 1 := by kernel_rfl
instance : SZ Tryd.prog 93 1 := ⟨sz_93⟩
theorem row_93 : rowT Tryd.prog 93 = some false := by kernel_rfl
instance : RO Tryd.prog 93 := ⟨row_93⟩
theorem sz_94 : szT Tryd.prog 94 = some 8 := by kernel_rfl
instance : SZ Tryd.prog 94 8 := ⟨sz_94⟩
theorem row_94 : rowT Tryd.prog 94 = some true := by kernel_rfl
instance : RA Tryd.prog 94 := ⟨row_94⟩
theorem sz_95 : szT Tryd.prog 95 = some 8 := by kernel_rfl
instance : SZ Tryd.prog 95 8 := ⟨sz_95⟩
theorem row_95 : rowT Tryd.prog 95 = some true := by kernel_rfl
instance : RA Tryd.prog 95 := ⟨row_95⟩
theorem sz_97 : szT Tryd.prog 97 = some 1 := by kernel_rfl
instance : SZ Tryd.prog 97 1 := ⟨sz_97⟩
theorem row_97 : rowT Tryd.prog 97 = some false := by kernel_rfl
instance : RO Tryd.prog 97 := ⟨row_97⟩
theorem sz_99 : szT Tryd.prog 99 = some 10 := by kernel_rfl
instance : SZ Tryd.prog 99 10 := ⟨sz_99⟩
theorem row_99 : rowT Tryd.prog 99 = some true := by kernel_rfl
instance : RA Tryd.prog 99 := ⟨row_99⟩
theorem sz_100 : szT Tryd.prog 100 = some 64 := by kernel_rfl
instance : SZ Tryd.prog 100 64 := ⟨sz_100⟩
theorem row_100 : rowT Tryd.prog 100 = some true := by kernel_rfl
instance : RA Tryd.prog 100 := ⟨row_100⟩
theorem sz_130 : szT Tryd.prog 130 = some 1 := by kernel_rfl
instance : SZ Tryd.prog 130 1 := ⟨sz_130⟩
theorem row_130 : rowT Tryd.prog 130 = some false := by kernel_rfl
instance : RO Tryd.prog 130 := ⟨row_130⟩
theorem sz_163 : szT Tryd.prog 163 = some 1 := by kernel_rfl
instance : SZ Tryd.prog 163 1 := ⟨sz_163⟩
theorem row_163 : rowT Tryd.prog 163 = some true := by kernel_rfl
instance : RA Tryd.prog 163 := ⟨row_163⟩
theorem zc_3 : zcT Tryd.prog 3 = some ([.int .i64 0]) := by kernel_rfl
instance : ZC Tryd.prog 3 ([.int .i64 0]) := ⟨zc_3⟩
theorem zc_4 : zcT Tryd.prog 4 = some ([.bool false]) := by kernel_rfl
instance : ZC Tryd.prog 4 ([.bool false]) := ⟨zc_4⟩
theorem zc_5 : zcT Tryd.prog 5 = some ([.int .u8 0]) := by kernel_rfl
instance : ZC Tryd.prog 5 ([.int .u8 0]) := ⟨zc_5⟩
theorem zc_9 : zcT Tryd.prog 9 = some ([.string ByteArray.empty]) := by kernel_rfl
instance : ZC Tryd.prog 9 ([.string ByteArray.empty]) := ⟨zc_9⟩
theorem zc_24 : zcT Tryd.prog 24 = some ([.pointer none]) := by kernel_rfl
instance : ZC Tryd.prog 24 ([.pointer none]) := ⟨zc_24⟩
theorem zc_26 : zcT Tryd.prog 26 = some ([.nilIface]) := by kernel_rfl
instance : ZC Tryd.prog 26 ([.nilIface]) := ⟨zc_26⟩
theorem zc_32 : zcT Tryd.prog 32 = some ([.slice none 0 0]) := by kernel_rfl
instance : ZC Tryd.prog 32 ([.slice none 0 0]) := ⟨zc_32⟩
theorem zc_37 : zcT Tryd.prog 37 = some ((List.replicate 64 (.int .u8 0))) := by kernel_rfl
instance : ZC Tryd.prog 37 ((List.replicate 64 (.int .u8 0))) := ⟨zc_37⟩
theorem zc_44 : zcT Tryd.prog 44 = some (HAppend.hAppend (List.replicate 64 (.int .u8 0)) ((List.replicate 64 (.int .u8 0)))) := by kernel_rfl
instance : ZC Tryd.prog 44 (HAppend.hAppend (List.replicate 64 (.int .u8 0)) ((List.replicate 64 (.int .u8 0)))) := ⟨zc_44⟩
theorem zc_51 : zcT Tryd.prog 51 = some ([.slice none 0 0]) := by kernel_rfl
instance : ZC Tryd.prog 51 ([.slice none 0 0]) := ⟨zc_51⟩
theorem zc_53 : zcT Tryd.prog 53 = some ([.int .i64 0, .int .i64 0, .slice none 0 0, .slice none 0 0]) := by kernel_rfl
instance : ZC Tryd.prog 53 ([.int .i64 0, .int .i64 0, .slice none 0 0, .slice none 0 0]) := ⟨zc_53⟩
theorem zc_57 : zcT Tryd.prog 57 = some ([.slice none 0 0]) := by kernel_rfl
instance : ZC Tryd.prog 57 ([.slice none 0 0]) := ⟨zc_57⟩
theorem zc_58 : zcT Tryd.prog 58 = some ([.map none]) := by kernel_rfl
instance : ZC Tryd.prog 58 ([.map none]) := ⟨zc_58⟩
theorem zc_60 : zcT Tryd.prog 60 = some ([.slice none 0 0, .map none, .bool false, .bool false, .int .i64 0]) := by kernel_rfl
instance : ZC Tryd.prog 60 ([.slice none 0 0, .map none, .bool false, .bool false, .int .i64 0]) := ⟨zc_60⟩
theorem zc_64 : zcT Tryd.prog 64 = some ([.pointer none, .int .i64 0, .int .i64 0, .slice none 0 0]) := by kernel_rfl
instance : ZC Tryd.prog 64 ([.pointer none, .int .i64 0, .int .i64 0, .slice none 0 0]) := ⟨zc_64⟩
theorem zc_69 : zcT Tryd.prog 69 = some (zD) := by kernel_rfl
instance : ZC Tryd.prog 69 (zD) := ⟨zc_69⟩
theorem zc_74 : zcT Tryd.prog 74 = some ([.slice none 0 0]) := by kernel_rfl
instance : ZC Tryd.prog 74 ([.slice none 0 0]) := ⟨zc_74⟩
theorem zc_80 : zcT Tryd.prog 80 = some ((List.replicate 32 (.int .u8 0))) := by kernel_rfl
instance : ZC Tryd.prog 80 ((List.replicate 32 (.int .u8 0))) := ⟨zc_80⟩
theorem zc_93 : zcT Tryd.prog 93 = some ([.int .u32 0]) := by kernel_rfl
instance : ZC Tryd.prog 93 ([.int .u32 0]) := ⟨zc_93⟩
theorem zc_94 : zcT Tryd.prog 94 = some ((List.replicate 8 (.int .u32 0))) := by kernel_rfl
instance : ZC Tryd.prog 94 ((List.replicate 8 (.int .u32 0))) := ⟨zc_94⟩
theorem zc_95 : zcT Tryd.prog 95 = some ((List.replicate 8 (.int .u32 0))) := by kernel_rfl
instance : ZC Tryd.prog 95 ((List.replicate 8 (.int .u32 0))) := ⟨zc_95⟩
theorem zc_97 : zcT Tryd.prog 97 = some ([.int .u64 0]) := by kernel_rfl
instance : ZC Tryd.prog 97 ([.int .u64 0]) := ⟨zc_97⟩
theorem zc_99 : zcT Tryd.prog 99 = some (HAppend.hAppend (List.replicate 8 (.int .u32 0)) ([.slice none 0 0, .int .u64 0])) := by kernel_rfl
instance : ZC Tryd.prog 99 (HAppend.hAppend (List.replicate 8 (.int .u32 0)) ([.slice none 0 0, .int .u64 0])) := ⟨zc_99⟩
theorem zc_100 : zcT Tryd.prog 100 = some ((List.replicate 64 (.int .u32 0))) := by kernel_rfl
instance : ZC Tryd.prog 100 ((List.replicate 64 (.int .u32 0))) := ⟨zc_100⟩
theorem zc_130 : zcT Tryd.prog 130 = some ([.int .u64 0]) := by kernel_rfl
instance : ZC Tryd.prog 130 ([.int .u64 0]) := ⟨zc_130⟩
theorem zc_163 : zcT Tryd.prog 163 = some ([.string ByteArray.empty]) := by kernel_rfl
instance : ZC Tryd.prog 163 ([.string ByteArray.empty]) := ⟨zc_163⟩
theorem sl_22 : sliceT Tryd.prog 22 = some 32 := by kernel_rfl
instance : SLT Tryd.prog 22 32 := ⟨sl_22⟩
theorem sl_32 : sliceT Tryd.prog 32 = some 5 := by kernel_rfl
instance : SLT Tryd.prog 32 5 := ⟨sl_32⟩
theorem arr_37 : arrT Tryd.prog 37 = some (64, 5) := by kernel_rfl
instance : ART Tryd.prog 37 64 5 := ⟨arr_37⟩
theorem arr_44 : arrT Tryd.prog 44 = some (2, 37) := by kernel_rfl
instance : ART Tryd.prog 44 2 37 := ⟨arr_44⟩
theorem sl_50 : sliceT Tryd.prog 50 = some 53 := by kernel_rfl
instance : SLT Tryd.prog 50 53 := ⟨sl_50⟩
theorem sl_51 : sliceT Tryd.prog 51 = some 4 := by kernel_rfl
instance : SLT Tryd.prog 51 4 := ⟨sl_51⟩
theorem sl_57 : sliceT Tryd.prog 57 = some 37 := by kernel_rfl
instance : SLT Tryd.prog 57 37 := ⟨sl_57⟩
theorem arr_69 : arrT Tryd.prog 69 = some (16, 5) := by kernel_rfl
instance : ART Tryd.prog 69 16 5 := ⟨arr_69⟩
theorem sl_72 : sliceT Tryd.prog 72 = some 26 := by kernel_rfl
instance : SLT Tryd.prog 72 26 := ⟨sl_72⟩
theorem sl_74 : sliceT Tryd.prog 74 = some 3 := by kernel_rfl
instance : SLT Tryd.prog 74 3 := ⟨sl_74⟩
theorem arr_80 : arrT Tryd.prog 80 = some (32, 5) := by kernel_rfl
instance : ART Tryd.prog 80 32 5 := ⟨arr_80⟩
theorem sl_82 : sliceT Tryd.prog 82 = some 9 := by kernel_rfl
instance : SLT Tryd.prog 82 9 := ⟨sl_82⟩
theorem arr_94 : arrT Tryd.prog 94 = some (8, 93) := by kernel_rfl
instance : ART Tryd.prog 94 8 93 := ⟨arr_94⟩
theorem arr_95 : arrT Tryd.prog 95 = some (8, 93) := by kernel_rfl
instance : ART Tryd.prog 95 8 93 := ⟨arr_95⟩
theorem arr_100 : arrT Tryd.prog 100 = some (64, 93) := by kernel_rfl
instance : ART Tryd.prog 100 64 93 := ⟨arr_100⟩
theorem el_22 : ElemT Tryd.prog 22 32 1 24 := elemT_of (by kernel_rfl)
instance : ELT Tryd.prog 22 32 1 24 := ⟨el_22⟩
theorem el_32 : ElemT Tryd.prog 32 5 1 1 := elemT_of (by kernel_rfl)
instance : ELT Tryd.prog 32 5 1 1 := ⟨el_32⟩
theorem el_50 : ElemT Tryd.prog 50 53 4 64 := elemT_of (by kernel_rfl)
instance : ELT Tryd.prog 50 53 4 64 := ⟨el_50⟩
theorem el_51 : ElemT Tryd.prog 51 4 1 1 := elemT_of (by kernel_rfl)
instance : ELT Tryd.prog 51 4 1 1 := ⟨el_51⟩
theorem el_57 : ElemT Tryd.prog 57 37 64 64 := elemT_of (by kernel_rfl)
instance : ELT Tryd.prog 57 37 64 64 := ⟨el_57⟩
theorem el_72 : ElemT Tryd.prog 72 26 1 16 := elemT_of (by kernel_rfl)
instance : ELT Tryd.prog 72 26 1 16 := ⟨el_72⟩
theorem el_74 : ElemT Tryd.prog 74 3 1 8 := elemT_of (by kernel_rfl)
instance : ELT Tryd.prog 74 3 1 8 := ⟨el_74⟩
theorem el_82 : ElemT Tryd.prog 82 9 1 16 := elemT_of (by kernel_rfl)
instance : ELT Tryd.prog 82 9 1 16 := ⟨el_82⟩
theorem un_3 : Tryd.prog.underlying 3 = some (.int .i64) := by kernel_rfl
instance : UNT Tryd.prog 3 (.int .i64) := ⟨un_3⟩
theorem un_5 : Tryd.prog.underlying 5 = some (.int .u8) := by kernel_rfl
instance : UNT Tryd.prog 5 (.int .u8) := ⟨un_5⟩
theorem un_9 : Tryd.prog.underlying 9 = some (.string) := by kernel_rfl
instance : UNT Tryd.prog 9 (.string) := ⟨un_9⟩
theorem un_24 : Tryd.prog.underlying 24 = some (.pointer 60) := by kernel_rfl
instance : UNT Tryd.prog 24 (.pointer 60) := ⟨un_24⟩
theorem ifc_26 : ifcT Tryd.prog 26 = true := by kernel_rfl
instance : IFT Tryd.prog 26 := ⟨ifc_26⟩
theorem un_29 : Tryd.prog.underlying 29 = some (.pointer 64) := by kernel_rfl
instance : UNT Tryd.prog 29 (.pointer 64) := ⟨un_29⟩
theorem un_32 : Tryd.prog.underlying 32 = some (.slice 5) := by kernel_rfl
instance : UNT Tryd.prog 32 (.slice 5) := ⟨un_32⟩
theorem un_37 : Tryd.prog.underlying 37 = some (.array 64 5) := by kernel_rfl
instance : UNT Tryd.prog 37 (.array 64 5) := ⟨un_37⟩
theorem un_39 : Tryd.prog.underlying 39 = some (.int .u64) := by kernel_rfl
instance : UNT Tryd.prog 39 (.int .u64) := ⟨un_39⟩
theorem un_58 : Tryd.prog.underlying 58 = some (.map 3 37) := by kernel_rfl
instance : UNT Tryd.prog 58 (.map 3 37) := ⟨un_58⟩
theorem pl_60 : placesT Tryd.prog 60 = some [(0, 1), (1, 1), (2, 1), (3, 1), (4, 1)] := by kernel_rfl
instance : PLT Tryd.prog 60 [(0, 1), (1, 1), (2, 1), (3, 1), (4, 1)] := ⟨pl_60⟩
theorem pl_64 : placesT Tryd.prog 64 = some [(0, 1), (1, 1), (2, 1), (3, 1)] := by kernel_rfl
instance : PLT Tryd.prog 64 [(0, 1), (1, 1), (2, 1), (3, 1)] := ⟨pl_64⟩
theorem un_69 : Tryd.prog.underlying 69 = some (.array 16 5) := by kernel_rfl
instance : UNT Tryd.prog 69 (.array 16 5) := ⟨un_69⟩
theorem un_80 : Tryd.prog.underlying 80 = some (.array 32 5) := by kernel_rfl
instance : UNT Tryd.prog 80 (.array 32 5) := ⟨un_80⟩
theorem un_93 : Tryd.prog.underlying 93 = some (.int .u32) := by kernel_rfl
instance : UNT Tryd.prog 93 (.int .u32) := ⟨un_93⟩
theorem un_94 : Tryd.prog.underlying 94 = some (.array 8 93) := by kernel_rfl
instance : UNT Tryd.prog 94 (.array 8 93) := ⟨un_94⟩
theorem un_95 : Tryd.prog.underlying 95 = some (.array 8 93) := by kernel_rfl
instance : UNT Tryd.prog 95 (.array 8 93) := ⟨un_95⟩
theorem un_97 : Tryd.prog.underlying 97 = some (.int .u64) := by kernel_rfl
instance : UNT Tryd.prog 97 (.int .u64) := ⟨un_97⟩
theorem pl_99 : placesT Tryd.prog 99 = some [(0, 8), (8, 1), (9, 1)] := by kernel_rfl
instance : PLT Tryd.prog 99 [(0, 8), (8, 1), (9, 1)] := ⟨pl_99⟩
theorem un_100 : Tryd.prog.underlying 100 = some (.array 64 93) := by kernel_rfl
instance : UNT Tryd.prog 100 (.array 64 93) := ⟨un_100⟩
theorem un_120 : Tryd.prog.underlying 120 = some (.int .i64) := by kernel_rfl
instance : UNT Tryd.prog 120 (.int .i64) := ⟨un_120⟩
theorem un_130 : Tryd.prog.underlying 130 = some (.int .u64) := by kernel_rfl
instance : UNT Tryd.prog 130 (.int .u64) := ⟨un_130⟩
theorem un_139 : Tryd.prog.underlying 139 = some (.pointer 163) := by kernel_rfl
instance : UNT Tryd.prog 139 (.pointer 163) := ⟨un_139⟩
theorem pl_163 : placesT Tryd.prog 163 = some [(0, 1)] := by kernel_rfl
instance : PLT Tryd.prog 163 [(0, 1)] := ⟨pl_163⟩
theorem fo_53_0 : foff Tryd.prog 53 0 = some 0 := by kernel_rfl
instance : FO Tryd.prog 53 0 0 := ⟨fo_53_0⟩
theorem fo_53_1 : foff Tryd.prog 53 1 = some 1 := by kernel_rfl
instance : FO Tryd.prog 53 1 1 := ⟨fo_53_1⟩
theorem fo_53_2 : foff Tryd.prog 53 2 = some 2 := by kernel_rfl
instance : FO Tryd.prog 53 2 2 := ⟨fo_53_2⟩
theorem fo_53_3 : foff Tryd.prog 53 3 = some 3 := by kernel_rfl
instance : FO Tryd.prog 53 3 3 := ⟨fo_53_3⟩
theorem fo_60_0 : foff Tryd.prog 60 0 = some 0 := by kernel_rfl
instance : FO Tryd.prog 60 0 0 := ⟨fo_60_0⟩
theorem fo_60_1 : foff Tryd.prog 60 1 = some 1 := by kernel_rfl
instance : FO Tryd.prog 60 1 1 := ⟨fo_60_1⟩
theorem fo_60_2 : foff Tryd.prog 60 2 = some 2 := by kernel_rfl
instance : FO Tryd.prog 60 2 2 := ⟨fo_60_2⟩
theorem fo_60_3 : foff Tryd.prog 60 3 = some 3 := by kernel_rfl
instance : FO Tryd.prog 60 3 3 := ⟨fo_60_3⟩
theorem fo_60_4 : foff Tryd.prog 60 4 = some 4 := by kernel_rfl
instance : FO Tryd.prog 60 4 4 := ⟨fo_60_4⟩
theorem fo_64_0 : foff Tryd.prog 64 0 = some 0 := by kernel_rfl
instance : FO Tryd.prog 64 0 0 := ⟨fo_64_0⟩
theorem fo_64_1 : foff Tryd.prog 64 1 = some 1 := by kernel_rfl
instance : FO Tryd.prog 64 1 1 := ⟨fo_64_1⟩
theorem fo_64_2 : foff Tryd.prog 64 2 = some 2 := by kernel_rfl
instance : FO Tryd.prog 64 2 2 := ⟨fo_64_2⟩
theorem fo_64_3 : foff Tryd.prog 64 3 = some 3 := by kernel_rfl
instance : FO Tryd.prog 64 3 3 := ⟨fo_64_3⟩
theorem fo_99_0 : foff Tryd.prog 99 0 = some 0 := by kernel_rfl
instance : FO Tryd.prog 99 0 0 := ⟨fo_99_0⟩
theorem fo_99_1 : foff Tryd.prog 99 1 = some 8 := by kernel_rfl
instance : FO Tryd.prog 99 1 8 := ⟨fo_99_1⟩
theorem fo_99_2 : foff Tryd.prog 99 2 = some 9 := by kernel_rfl
instance : FO Tryd.prog 99 2 9 := ⟨fo_99_2⟩
theorem call_3 : okCall Tryd.prog 3 = true := by kernel_rfl
instance : CLT Tryd.prog 3 := ⟨call_3⟩
theorem call_4 : okCall Tryd.prog 4 = true := by kernel_rfl
instance : CLT Tryd.prog 4 := ⟨call_4⟩
theorem call_5 : okCall Tryd.prog 5 = true := by kernel_rfl
instance : CLT Tryd.prog 5 := ⟨call_5⟩
theorem call_6 : okCall Tryd.prog 6 = true := by kernel_rfl
instance : CLT Tryd.prog 6 := ⟨call_6⟩
theorem call_7 : okCall Tryd.prog 7 = true := by kernel_rfl
instance : CLT Tryd.prog 7 := ⟨call_7⟩
theorem call_8 : okCall Tryd.prog 8 = true := by kernel_rfl
instance : CLT Tryd.prog 8 := ⟨call_8⟩
theorem call_9 : okCall Tryd.prog 9 = true := by kernel_rfl
instance : CLT Tryd.prog 9 := ⟨call_9⟩
theorem call_10 : okCall Tryd.prog 10 = true := by kernel_rfl
instance : CLT Tryd.prog 10 := ⟨call_10⟩
theorem call_11 : okCall Tryd.prog 11 = true := by kernel_rfl
instance : CLT Tryd.prog 11 := ⟨call_11⟩
theorem call_12 : okCall Tryd.prog 12 = true := by kernel_rfl
instance : CLT Tryd.prog 12 := ⟨call_12⟩
theorem call_13 : okCall Tryd.prog 13 = true := by kernel_rfl
instance : CLT Tryd.prog 13 := ⟨call_13⟩
theorem call_14 : okCall Tryd.prog 14 = true := by kernel_rfl
instance : CLT Tryd.prog 14 := ⟨call_14⟩
theorem call_15 : okCall Tryd.prog 15 = true := by kernel_rfl
instance : CLT Tryd.prog 15 := ⟨call_15⟩
theorem call_16 : okCall Tryd.prog 16 = true := by kernel_rfl
instance : CLT Tryd.prog 16 := ⟨call_16⟩
theorem call_17 : okCall Tryd.prog 17 = true := by kernel_rfl
instance : CLT Tryd.prog 17 := ⟨call_17⟩
theorem call_18 : okCall Tryd.prog 18 = true := by kernel_rfl
instance : CLT Tryd.prog 18 := ⟨call_18⟩
theorem call_19 : okCall Tryd.prog 19 = true := by kernel_rfl
instance : CLT Tryd.prog 19 := ⟨call_19⟩
theorem call_20 : okCall Tryd.prog 20 = true := by kernel_rfl
instance : CLT Tryd.prog 20 := ⟨call_20⟩
theorem call_21 : okCall Tryd.prog 21 = true := by kernel_rfl
instance : CLT Tryd.prog 21 := ⟨call_21⟩
theorem call_22 : okCall Tryd.prog 22 = true := by kernel_rfl
instance : CLT Tryd.prog 22 := ⟨call_22⟩
theorem call_23 : okCall Tryd.prog 23 = true := by kernel_rfl
instance : CLT Tryd.prog 23 := ⟨call_23⟩
theorem call_24 : okCall Tryd.prog 24 = true := by kernel_rfl
instance : CLT Tryd.prog 24 := ⟨call_24⟩
theorem call_25 : okCall Tryd.prog 25 = true := by kernel_rfl
instance : CLT Tryd.prog 25 := ⟨call_25⟩
theorem call_26 : okCall Tryd.prog 26 = true := by kernel_rfl
instance : CLT Tryd.prog 26 := ⟨call_26⟩
theorem call_27 : okCall Tryd.prog 27 = true := by kernel_rfl
instance : CLT Tryd.prog 27 := ⟨call_27⟩
theorem call_28 : okCall Tryd.prog 28 = true := by kernel_rfl
instance : CLT Tryd.prog 28 := ⟨call_28⟩
theorem call_29 : okCall Tryd.prog 29 = true := by kernel_rfl
instance : CLT Tryd.prog 29 := ⟨call_29⟩
theorem call_30 : okCall Tryd.prog 30 = true := by kernel_rfl
instance : CLT Tryd.prog 30 := ⟨call_30⟩
theorem call_31 : okCall Tryd.prog 31 = true := by kernel_rfl
instance : CLT Tryd.prog 31 := ⟨call_31⟩
theorem call_32 : okCall Tryd.prog 32 = true := by kernel_rfl
instance : CLT Tryd.prog 32 := ⟨call_32⟩
theorem call_33 : okCall Tryd.prog 33 = true := by kernel_rfl
instance : CLT Tryd.prog 33 := ⟨call_33⟩
theorem call_34 : okCall Tryd.prog 34 = true := by kernel_rfl
instance : CLT Tryd.prog 34 := ⟨call_34⟩
theorem call_35 : okCall Tryd.prog 35 = true := by kernel_rfl
instance : CLT Tryd.prog 35 := ⟨call_35⟩
theorem call_36 : okCall Tryd.prog 36 = true := by kernel_rfl
instance : CLT Tryd.prog 36 := ⟨call_36⟩
theorem call_37 : okCall Tryd.prog 37 = true := by kernel_rfl
instance : CLT Tryd.prog 37 := ⟨call_37⟩
theorem call_38 : okCall Tryd.prog 38 = true := by kernel_rfl
instance : CLT Tryd.prog 38 := ⟨call_38⟩
theorem call_39 : okCall Tryd.prog 39 = true := by kernel_rfl
instance : CLT Tryd.prog 39 := ⟨call_39⟩
theorem call_40 : okCall Tryd.prog 40 = true := by kernel_rfl
instance : CLT Tryd.prog 40 := ⟨call_40⟩
theorem call_41 : okCall Tryd.prog 41 = true := by kernel_rfl
instance : CLT Tryd.prog 41 := ⟨call_41⟩
theorem call_42 : okCall Tryd.prog 42 = true := by kernel_rfl
instance : CLT Tryd.prog 42 := ⟨call_42⟩
theorem call_44 : okCall Tryd.prog 44 = true := by kernel_rfl
instance : CLT Tryd.prog 44 := ⟨call_44⟩
theorem call_45 : okCall Tryd.prog 45 = true := by kernel_rfl
instance : CLT Tryd.prog 45 := ⟨call_45⟩
theorem call_46 : okCall Tryd.prog 46 = true := by kernel_rfl
instance : CLT Tryd.prog 46 := ⟨call_46⟩
theorem call_47 : okCall Tryd.prog 47 = true := by kernel_rfl
instance : CLT Tryd.prog 47 := ⟨call_47⟩
theorem call_48 : okCall Tryd.prog 48 = true := by kernel_rfl
instance : CLT Tryd.prog 48 := ⟨call_48⟩
theorem call_49 : okCall Tryd.prog 49 = true := by kernel_rfl
instance : CLT Tryd.prog 49 := ⟨call_49⟩
theorem call_50 : okCall Tryd.prog 50 = true := by kernel_rfl
instance : CLT Tryd.prog 50 := ⟨call_50⟩
theorem call_51 : okCall Tryd.prog 51 = true := by kernel_rfl
instance : CLT Tryd.prog 51 := ⟨call_51⟩
theorem call_52 : okCall Tryd.prog 52 = true := by kernel_rfl
instance : CLT Tryd.prog 52 := ⟨call_52⟩
theorem call_53 : okCall Tryd.prog 53 = true := by kernel_rfl
instance : CLT Tryd.prog 53 := ⟨call_53⟩
theorem call_54 : okCall Tryd.prog 54 = true := by kernel_rfl
instance : CLT Tryd.prog 54 := ⟨call_54⟩
theorem call_55 : okCall Tryd.prog 55 = true := by kernel_rfl
instance : CLT Tryd.prog 55 := ⟨call_55⟩
theorem call_56 : okCall Tryd.prog 56 = true := by kernel_rfl
instance : CLT Tryd.prog 56 := ⟨call_56⟩
theorem call_57 : okCall Tryd.prog 57 = true := by kernel_rfl
instance : CLT Tryd.prog 57 := ⟨call_57⟩
theorem call_58 : okCall Tryd.prog 58 = true := by kernel_rfl
instance : CLT Tryd.prog 58 := ⟨call_58⟩
theorem call_59 : okCall Tryd.prog 59 = true := by kernel_rfl
instance : CLT Tryd.prog 59 := ⟨call_59⟩
theorem call_60 : okCall Tryd.prog 60 = true := by kernel_rfl
instance : CLT Tryd.prog 60 := ⟨call_60⟩
theorem call_61 : okCall Tryd.prog 61 = true := by kernel_rfl
instance : CLT Tryd.prog 61 := ⟨call_61⟩
theorem call_62 : okCall Tryd.prog 62 = true := by kernel_rfl
instance : CLT Tryd.prog 62 := ⟨call_62⟩
theorem call_63 : okCall Tryd.prog 63 = true := by kernel_rfl
instance : CLT Tryd.prog 63 := ⟨call_63⟩
theorem call_64 : okCall Tryd.prog 64 = true := by kernel_rfl
instance : CLT Tryd.prog 64 := ⟨call_64⟩
theorem call_65 : okCall Tryd.prog 65 = true := by kernel_rfl
instance : CLT Tryd.prog 65 := ⟨call_65⟩
theorem call_66 : okCall Tryd.prog 66 = true := by kernel_rfl
instance : CLT Tryd.prog 66 := ⟨call_66⟩
theorem call_67 : okCall Tryd.prog 67 = true := by kernel_rfl
instance : CLT Tryd.prog 67 := ⟨call_67⟩
theorem call_68 : okCall Tryd.prog 68 = true := by kernel_rfl
instance : CLT Tryd.prog 68 := ⟨call_68⟩
theorem call_69 : okCall Tryd.prog 69 = true := by kernel_rfl
instance : CLT Tryd.prog 69 := ⟨call_69⟩
theorem call_70 : okCall Tryd.prog 70 = true := by kernel_rfl
instance : CLT Tryd.prog 70 := ⟨call_70⟩
theorem call_71 : okCall Tryd.prog 71 = true := by kernel_rfl
instance : CLT Tryd.prog 71 := ⟨call_71⟩
theorem call_72 : okCall Tryd.prog 72 = true := by kernel_rfl
instance : CLT Tryd.prog 72 := ⟨call_72⟩
theorem call_73 : okCall Tryd.prog 73 = true := by kernel_rfl
instance : CLT Tryd.prog 73 := ⟨call_73⟩
theorem call_74 : okCall Tryd.prog 74 = true := by kernel_rfl
instance : CLT Tryd.prog 74 := ⟨call_74⟩
theorem call_75 : okCall Tryd.prog 75 = true := by kernel_rfl
instance : CLT Tryd.prog 75 := ⟨call_75⟩
theorem call_76 : okCall Tryd.prog 76 = true := by kernel_rfl
instance : CLT Tryd.prog 76 := ⟨call_76⟩
theorem call_107 : okCall Tryd.prog 107 = true := by kernel_rfl
instance : CLT Tryd.prog 107 := ⟨call_107⟩
theorem call_129 : okCall Tryd.prog 129 = true := by kernel_rfl
instance : CLT Tryd.prog 129 := ⟨call_129⟩

end Ty
end Go.Proofs.YtffkjjakceojfaaDoor
