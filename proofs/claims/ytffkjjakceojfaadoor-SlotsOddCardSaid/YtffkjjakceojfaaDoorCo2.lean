/- Part 2. What is proved: see the last part: for every input the law returns true, and the input reads as it did. -/
import Derived.Test.YtffkjjakceojfaaDoorCo1
import Derived.Test.YtffkjjakceojfaaDoorProg
import Derived.OpenShut
import Derived.ChangeArms
import Derived.Test.YtffkjjakceojfaaDoorRows
import Derived.WalkKit
import Derived.ProofKit
import Derived.Below
import Derived.Carry
import Derived.Lib.LaidTab
import Derived.Stop.LaidErr
import Derived.Shelf.SlIterI.Nil
import Derived.Shelf.SlIterI.Sorted
import Derived.Shelf.SortM.Plain
import Derived.Shelf.SortM.SortNone
import Derived.Ground.GgzProg
import Derived.Ground.SlgmProg
import Derived.KernelRfl
/- Closed facts of the translation's tables, by program (facts.py). -/
namespace Go.Proofs.YtffkjjakceojfaaDoor
open Go
namespace Ty

theorem sz_3 : szT Tryd.prog 3 = some 1 := by kernel_rfl
instance : SZ Tryd.prog 3 1 := ⟨sz_3⟩
theorem row_3 : rowT Tryd.prog 3 = some false := by kernel_rfl
instance : RO Tryd.prog 3 := ⟨row_3⟩
theorem sz_4 : szT Tryd.prog 4 = some 1 := by kernel_rfl
instance : SZ Tryd.prog 4 1 := ⟨sz_4⟩
theorem row_4 : rowT Tryd.prog 4 = some false := by kernel_rfl
instance : RO Tryd.prog 4 := ⟨row_4⟩
theorem sz_5 : szT Tryd.prog 5 = some 1 := by kernel_rfl
instance : SZ Tryd.prog 5 1 := ⟨sz_5⟩
theorem row_5 : rowT Tryd.prog 5 = some false := by kernel_rfl
instance : RO Tryd.prog 5 := ⟨row_5⟩
theorem sz_9 : szT Tryd.prog 9 = some 1 := by kernel_rfl
instance : SZ Tryd.prog 9 1 := ⟨sz_9⟩
theorem row_9 : rowT Tryd.prog 9 = some false := by kernel_rfl
instance : RO Tryd.prog 9 := ⟨row_9⟩
theorem sz_24 : szT Tryd.prog 24 = some 1 := by kernel_rfl
instance : SZ Tryd.prog 24 1 := ⟨sz_24⟩
theorem row_24 : rowT Tryd.prog 24 = some false := by kernel_rfl
instance : RO Tryd.prog 24 := ⟨row_24⟩
theorem sz_26 : szT Tryd.prog 26 = some 1 := by kernel_rfl
instance : SZ Tryd.prog 26 1 := ⟨sz_26⟩
theorem row_26 : rowT Tryd.prog 26 = some false := by kernel_rfl
instance : RO Tryd.prog 26 := ⟨row_26⟩
theorem sz_32 : szT Tryd.prog 32 = some 1 := by kernel_rfl
instance : SZ Tryd.prog 32 1 := ⟨sz_32⟩
theorem row_32 : rowT Tryd.prog 32 = some false := by kernel_rfl
instance : RO Tryd.prog 32 := ⟨row_32⟩
theorem sz_37 : szT Tryd.prog 37 = some 64 := by kernel_rfl
instance : SZ Tryd.prog 37 64 := ⟨sz_37⟩
theorem row_37 : rowT Tryd.prog 37 = some true := by kernel_rfl
instance : RA Tryd.prog 37 := ⟨row_37⟩
theorem sz_44 : szT Tryd.prog 44 = some 128 := by kernel_rfl
instance : SZ Tryd.prog 44 128 := ⟨sz_44⟩
theorem row_44 : rowT Tryd.prog 44 = some true := by kernel_rfl
instance : RA Tryd.prog 44 := ⟨row_44⟩
theorem sz_51 : szT Tryd.prog 51 = some 1 := by kernel_rfl
instance : SZ Tryd.prog 51 1 := ⟨sz_51⟩
theorem row_51 : rowT Tryd.prog 51 = some false := by kernel_rfl
instance : RO Tryd.prog 51 := ⟨row_51⟩
theorem sz_53 : szT Tryd.prog 53 = some 4 := by kernel_rfl
instance : SZ Tryd.prog 53 4 := ⟨sz_53⟩
theorem row_53 : rowT Tryd.prog 53 = some true := by kernel_rfl
instance : RA Tryd.prog 53 := ⟨row_53⟩
theorem sz_57 : szT Tryd.prog 57 = some 1 := by kernel_rfl
instance : SZ Tryd.prog 57 1 := ⟨sz_57⟩
theorem row_57 : rowT Tryd.prog 57 = some false := by kernel_rfl
instance : RO Tryd.prog 57 := ⟨row_57⟩
theorem sz_58 : szT Tryd.prog 58 = some 1 := by kernel_rfl
instance : SZ Tryd.prog 58 1 := ⟨sz_58⟩
theorem row_58 : rowT Tryd.prog 58 = some false := by kernel_rfl
instance : RO Tryd.prog 58 := ⟨row_58⟩
theorem sz_60 : szT Tryd.prog 60 = some 5 := by kernel_rfl
instance : SZ Tryd.prog 60 5 := ⟨sz_60⟩
theorem row_60 : rowT Tryd.prog 60 = some true := by kernel_rfl
instance : RA Tryd.prog 60 := ⟨row_60⟩
theorem sz_64 : szT Tryd.prog 64 = some 4 := by kernel_rfl
instance : SZ Tryd.prog 64 4 := ⟨sz_64⟩
theorem row_64 : rowT Tryd.prog 64 = some true := by kernel_rfl
instance : RA Tryd.prog 64 := ⟨row_64⟩
theorem sz_69 : szT Tryd.prog 69 = some 16 := by kernel_rfl
instance : SZ Tryd.prog 69 16 := ⟨sz_69⟩
theorem row_69 : rowT Tryd.prog 69 = some true := by kernel_rfl
instance : RA Tryd.prog 69 := ⟨row_69⟩
theorem sz_74 : szT Tryd.prog 74 = some 1 := by kernel_rfl
instance : SZ Tryd.prog 74 1 := ⟨sz_74⟩
theorem row_74 : rowT Tryd.prog 74 = some false := by kernel_rfl
instance : RO Tryd.prog 74 := ⟨row_74⟩
theorem sz_80 : szT Tryd.prog 80 = some 32 := by kernel_rfl
instance : SZ Tryd.prog 80 32 := ⟨sz_80⟩
theorem row_80 : rowT Tryd.prog 80 = some true := by kernel_rfl
instance : RA Tryd.prog 80 := ⟨row_80⟩
theorem sz_93 : szT Tryd.prog 93 = some 1 := by kernel_rfl
instance : SZ Tryd.prog 93 1 := ⟨sz_93⟩
theorem row_93 : rowT Tryd.prog 93 = some false := by kernel_rfl
instance : RO Tryd.prog 93 := ⟨row_93⟩
theorem sz_94 : szT Tryd.prog 94 = some 8 := by kernel_rfl
instance : SZ Tryd.prog 94 8 := ⟨sz_94⟩
theorem row_94 : rowT Tryd.prog 94 = some true := by kernel_rfl
instance : RA Tryd.prog 94 := ⟨row_94⟩
theorem sz_95 : szT Tryd.prog 95 = some 8 := by kernel_rfl
instance : SZ Tryd.prog 95 8 := ⟨sz_95⟩
theorem row_95 : rowT Tryd.prog 95 = some true := by kernel_rfl
instance : RA Tryd.prog 95 := ⟨row_95⟩
theorem sz_97 : szT Tryd.prog 97 = some 1 := by kernel_rfl
instance : SZ Tryd.prog 97 1 := ⟨sz_97⟩
theorem row_97 : rowT Tryd.prog 97 = some false := by kernel_rfl
instance : RO Tryd.prog 97 := ⟨row_97⟩
theorem sz_99 : szT Tryd.prog 99 = some 10 := by kernel_rfl
instance : SZ Tryd.prog 99 10 := ⟨sz_99⟩
theorem row_99 : rowT Tryd.prog 99 = some true := by kernel_rfl
instance : RA Tryd.prog 99 := ⟨row_99⟩
theorem sz_100 : szT Tryd.prog 100 = some 64 := by kernel_rfl
instance : SZ Tryd.prog 100 64 := ⟨sz_100⟩
theorem row_100 : rowT Tryd.prog 100 = some true := by kernel_rfl
instance : RA Tryd.prog 100 := ⟨row_100⟩
theorem sz_130 : szT Tryd.prog 130 = some 1 := by kernel_rfl
instance : SZ Tryd.prog 130 1 := ⟨sz_130⟩
theorem row_130 : rowT Tryd.prog 130 = some false := by kernel_rfl
instance : RO Tryd.prog 130 := ⟨row_130⟩
theorem sz_163 : szT Tryd.prog 163 = some 1 := by kernel_rfl
instance : SZ Tryd.prog 163 1 := ⟨sz_163⟩
theorem row_163 : rowT Tryd.prog 163 = some true := by kernel_rfl
instance : RA Tryd.prog 163 := ⟨row_163⟩
theorem zc_3 : zcT Tryd.prog 3 = some ([.int .i64 0]) := by kernel_rfl
instance : ZC Tryd.prog 3 ([.int .i64 0]) := ⟨zc_3⟩
theorem zc_4 : zcT Tryd.prog 4 = some ([.bool false]) := by kernel_rfl
instance : ZC Tryd.prog 4 ([.bool false]) := ⟨zc_4⟩
theorem zc_5 : zcT Tryd.prog 5 = some ([.int .u8 0]) := by kernel_rfl
instance : ZC Tryd.prog 5 ([.int .u8 0]) := ⟨zc_5⟩
theorem zc_9 : zcT Tryd.prog 9 = some ([.string ByteArray.empty]) := by kernel_rfl
instance : ZC Tryd.prog 9 ([.string ByteArray.empty]) := ⟨zc_9⟩
theorem zc_24 : zcT Tryd.prog 24 = some ([.pointer none]) := by kernel_rfl
instance : ZC Tryd.prog 24 ([.pointer none]) := ⟨zc_24⟩
theorem zc_26 : zcT Tryd.prog 26 = some ([.nilIface]) := by kernel_rfl
instance : ZC Tryd.prog 26 ([.nilIface]) := ⟨zc_26⟩
theorem zc_32 : zcT Tryd.prog 32 = some ([.slice none 0 0]) := by kernel_rfl
instance : ZC Tryd.prog 32 ([.slice none 0 0]) := ⟨zc_32⟩
theorem zc_37 : zcT Tryd.prog 37 = some ((List.replicate 64 (.int .u8 0))) := by kernel_rfl
instance : ZC Tryd.prog 37 ((List.replicate 64 (.int .u8 0))) := ⟨zc_37⟩
theorem zc_44 : zcT Tryd.prog 44 = some (HAppend.hAppend (List.replicate 64 (.int .u8 0)) ((List.replicate 64 (.int .u8 0)))) := by kernel_rfl
instance : ZC Tryd.prog 44 (HAppend.hAppend (List.replicate 64 (.int .u8 0)) ((List.replicate 64 (.int .u8 0)))) := ⟨zc_44⟩
theorem zc_51 : zcT Tryd.prog 51 = some ([.slice none 0 0]) := by kernel_rfl
instance : ZC Tryd.prog 51 ([.slice none 0 0]) := ⟨zc_51⟩
theorem zc_53 : zcT Tryd.prog 53 = some ([.int .i64 0, .int .i64 0, .slice none 0 0, .slice none 0 0]) := by kernel_rfl
instance : ZC Tryd.prog 53 ([.int .i64 0, .int .i64 0, .slice none 0 0, .slice none 0 0]) := ⟨zc_53⟩
theorem zc_57 : zcT Tryd.prog 57 = some ([.slice none 0 0]) := by kernel_rfl
instance : ZC Tryd.prog 57 ([.slice none 0 0]) := ⟨zc_57⟩
theorem zc_58 : zcT Tryd.prog 58 = some ([.map none]) := by kernel_rfl
instance : ZC Tryd.prog 58 ([.map none]) := ⟨zc_58⟩
theorem zc_60 : zcT Tryd.prog 60 = some ([.slice none 0 0, .map none, .bool false, .bool false, .int .i64 0]) := by kernel_rfl
instance : ZC Tryd.prog 60 ([.slice none 0 0, .map none, .bool false, .bool false, .int .i64 0]) := ⟨zc_60⟩
theorem zc_64 : zcT Tryd.prog 64 = some ([.pointer none, .int .i64 0, .int .i64 0, .slice none 0 0]) := by kernel_rfl
instance : ZC Tryd.prog 64 ([.pointer none, .int .i64 0, .int .i64 0, .slice none 0 0]) := ⟨zc_64⟩
theorem zc_69 : zcT Tryd.prog 69 = some (zD) := by kernel_rfl
instance : ZC Tryd.prog 69 (zD) := ⟨zc_69⟩
theorem zc_74 : zcT Tryd.prog 74 = some ([.slice none 0 0]) := by kernel_rfl
instance : ZC Tryd.prog 74 ([.slice none 0 0]) := ⟨zc_74⟩
theorem zc_80 : zcT Tryd.prog 80 = some ((List.replicate 32 (.int .u8 0))) := by kernel_rfl
instance : ZC Tryd.prog 80 ((List.replicate 32 (.int .u8 0))) := ⟨zc_80⟩
theorem zc_93 : zcT Tryd.prog 93 = some ([.int .u32 0]) := by kernel_rfl
instance : ZC Tryd.prog 93 ([.int .u32 0]) := ⟨zc_93⟩
theorem zc_94 : zcT Tryd.prog 94 = some ((List.replicate 8 (.int .u32 0))) := by kernel_rfl
instance : ZC Tryd.prog 94 ((List.replicate 8 (.int .u32 0))) := ⟨zc_94⟩
theorem zc_95 : zcT Tryd.prog 95 = some ((List.replicate 8 (.int .u32 0))) := by kernel_rfl
instance : ZC Tryd.prog 95 ((List.replicate 8 (.int .u32 0))) := ⟨zc_95⟩
theorem zc_97 : zcT Tryd.prog 97 = some ([.int .u64 0]) := by kernel_rfl
instance : ZC Tryd.prog 97 ([.int .u64 0]) := ⟨zc_97⟩
theorem zc_99 : zcT Tryd.prog 99 = some (HAppend.hAppend (List.replicate 8 (.int .u32 0)) ([.slice none 0 0, .int .u64 0])) := by kernel_rfl
instance : ZC Tryd.prog 99 (HAppend.hAppend (List.replicate 8 (.int .u32 0)) ([.slice none 0 0, .int .u64 0])) := ⟨zc_99⟩
theorem zc_100 : zcT Tryd.prog 100 = some ((List.replicate 64 (.int .u32 0))) := by kernel_rfl
instance : ZC Tryd.prog 100 ((List.replicate 64 (.int .u32 0))) := ⟨zc_100⟩
theorem zc_130 : zcT Tryd.prog 130 = some ([.int .u64 0]) := by kernel_rfl
instance : ZC Tryd.prog 130 ([.int .u64 0]) := ⟨zc_130⟩
theorem zc_163 : zcT Tryd.prog 163 = some ([.string ByteArray.empty]) := by kernel_rfl
instance : ZC Tryd.prog 163 ([.string ByteArray.empty]) := ⟨zc_163⟩
theorem sl_22 : sliceT Tryd.prog 22 = some 32 := by kernel_rfl
instance : SLT Tryd.prog 22 32 := ⟨sl_22⟩
theorem sl_32 : sliceT Tryd.prog 32 = some 5 := by kernel_rfl
instance : SLT Tryd.prog 32 5 := ⟨sl_32⟩
theorem arr_37 : arrT Tryd.prog 37 = some (64, 5) := by kernel_rfl
instance : ART Tryd.prog 37 64 5 := ⟨arr_37⟩
theorem arr_44 : arrT Tryd.prog 44 = some (2, 37) := by kernel_rfl
instance : ART Tryd.prog 44 2 37 := ⟨arr_44⟩
theorem sl_50 : sliceT Tryd.prog 50 = some 53 := by kernel_rfl
instance : SLT Tryd.prog 50 53 := ⟨sl_50⟩
theorem sl_51 : sliceT Tryd.prog 51 = some 4 := by kernel_rfl
instance : SLT Tryd.prog 51 4 := ⟨sl_51⟩
theorem sl_57 : sliceT Tryd.prog 57 = some 37 := by kernel_rfl
instance : SLT Tryd.prog 57 37 := ⟨sl_57⟩
theorem arr_69 : arrT Tryd.prog 69 = some (16, 5) := by kernel_rfl
instance : ART Tryd.prog 69 16 5 := ⟨arr_69⟩
theorem sl_72 : sliceT Tryd.prog 72 = some 26 := by kernel_rfl
instance : SLT Tryd.prog 72 26 := ⟨sl_72⟩
theorem sl_74 : sliceT Tryd.prog 74 = some 3 := by kernel_rfl
instance : SLT Tryd.prog 74 3 := ⟨sl_74⟩
theorem arr_80 : arrT Tryd.prog 80 = some (32, 5) := by kernel_rfl
instance : ART Tryd.prog 80 32 5 := ⟨arr_80⟩
theorem sl_82 : sliceT Tryd.prog 82 = some 9 := by kernel_rfl
instance : SLT Tryd.prog 82 9 := ⟨sl_82⟩
theorem arr_94 : arrT Tryd.prog 94 = some (8, 93) := by kernel_rfl
instance : ART Tryd.prog 94 8 93 := ⟨arr_94⟩
theorem arr_95 : arrT Tryd.prog 95 = some (8, 93) := by kernel_rfl
instance : ART Tryd.prog 95 8 93 := ⟨arr_95⟩
theorem arr_100 : arrT Tryd.prog 100 = some (64, 93) := by kernel_rfl
instance : ART Tryd.prog 100 64 93 := ⟨arr_100⟩
theorem el_22 : ElemT Tryd.prog 22 32 1 24 := elemT_of (by kernel_rfl)
instance : ELT Tryd.prog 22 32 1 24 := ⟨el_22⟩
theorem el_32 : ElemT Tryd.prog 32 5 1 1 := elemT_of (by kernel_rfl)
instance : ELT Tryd.prog 32 5 1 1 := ⟨el_32⟩
theorem el_50 : ElemT Tryd.prog 50 53 4 64 := elemT_of (by kernel_rfl)
instance : ELT Tryd.prog 50 53 4 64 := ⟨el_50⟩
theorem el_51 : ElemT Tryd.prog 51 4 1 1 := elemT_of (by kernel_rfl)
instance : ELT Tryd.prog 51 4 1 1 := ⟨el_51⟩
theorem el_57 : ElemT Tryd.prog 57 37 64 64 := elemT_of (by kernel_rfl)
instance : ELT Tryd.prog 57 37 64 64 := ⟨el_57⟩
theorem el_72 : ElemT Tryd.prog 72 26 1 16 := elemT_of (by kernel_rfl)
instance : ELT Tryd.prog 72 26 1 16 := ⟨el_72⟩
theorem el_74 : ElemT Tryd.prog 74 3 1 8 := elemT_of (by kernel_rfl)
instance : ELT Tryd.prog 74 3 1 8 := ⟨el_74⟩
theorem el_82 : ElemT Tryd.prog 82 9 1 16 := elemT_of (by kernel_rfl)
instance : ELT Tryd.prog 82 9 1 16 := ⟨el_82⟩
theorem un_3 : Tryd.prog.underlying 3 = some (.int .i64) := by kernel_rfl
instance : UNT Tryd.prog 3 (.int .i64) := ⟨un_3⟩
theorem un_5 : Tryd.prog.underlying 5 = some (.int .u8) := by kernel_rfl
instance : UNT Tryd.prog 5 (.int .u8) := ⟨un_5⟩
theorem un_9 : Tryd.prog.underlying 9 = some (.string) := by kernel_rfl
instance : UNT Tryd.prog 9 (.string) := ⟨un_9⟩
theorem un_24 : Tryd.prog.underlying 24 = some (.pointer 60) := by kernel_rfl
instance : UNT Tryd.prog 24 (.pointer 60) := ⟨un_24⟩
theorem ifc_26 : ifcT Tryd.prog 26 = true := by kernel_rfl
instance : IFT Tryd.prog 26 := ⟨ifc_26⟩
theorem un_29 : Tryd.prog.underlying 29 = some (.pointer 64) := by kernel_rfl
instance : UNT Tryd.prog 29 (.pointer 64) := ⟨un_29⟩
theorem un_32 : Tryd.prog.underlying 32 = some (.slice 5) := by kernel_rfl
instance : UNT Tryd.prog 32 (.slice 5) := ⟨un_32⟩
theorem un_37 : Tryd.prog.underlying 37 = some (.array 64 5) := by kernel_rfl
instance : UNT Tryd.prog 37 (.array 64 5) := ⟨un_37⟩
theorem un_39 : Tryd.prog.underlying 39 = some (.int .u64) := by kernel_rfl
instance : UNT Tryd.prog 39 (.int .u64) := ⟨un_39⟩
theorem un_58 : Tryd.prog.underlying 58 = some (.map 3 37) := by kernel_rfl
instance : UNT Tryd.prog 58 (.map 3 37) := ⟨un_58⟩
theorem pl_60 : placesT Tryd.prog 60 = some [(0, 1), (1, 1), (2, 1), (3, 1), (4, 1)] := by kernel_rfl
instance : PLT Tryd.prog 60 [(0, 1), (1, 1), (2, 1), (3, 1), (4, 1)] := ⟨pl_60⟩
theorem pl_64 : placesT Tryd.prog 64 = some [(0, 1), (1, 1), (2, 1), (3, 1)] := by kernel_rfl
instance : PLT Tryd.prog 64 [(0, 1), (1, 1), (2, 1), (3, 1)] := ⟨pl_64⟩
theorem un_69 : Tryd.prog.underlying 69 = some (.array 16 5) := by kernel_rfl
instance : UNT Tryd.prog 69 (.array 16 5) := ⟨un_69⟩
theorem un_80 : Tryd.prog.underlying 80 = some (.array 32 5) := by kernel_rfl
instance : UNT Tryd.prog 80 (.array 32 5) := ⟨un_80⟩
theorem un_93 : Tryd.prog.underlying 93 = some (.int .u32) := by kernel_rfl
instance : UNT Tryd.prog 93 (.int .u32) := ⟨un_93⟩
theorem un_94 : Tryd.prog.underlying 94 = some (.array 8 93) := by kernel_rfl
instance : UNT Tryd.prog 94 (.array 8 93) := ⟨un_94⟩
theorem un_95 : Tryd.prog.underlying 95 = some (.array 8 93) := by kernel_rfl
instance : UNT Tryd.prog 95 (.array 8 93) := ⟨un_95⟩
theorem un_97 : Tryd.prog.underlying 97 = some (.int .u64) := by kernel_rfl
instance : UNT Tryd.prog 97 (.int .u64) := ⟨un_97⟩
theorem pl_99 : placesT Tryd.prog 99 = some [(0, 8), (8, 1), (9, 1)] := by kernel_rfl
instance : PLT Tryd.prog 99 [(0, 8), (8, 1), (9, 1)] := ⟨pl_99⟩
theorem un_100 : Tryd.prog.underlying 100 = some (.array 64 93) := by kernel_rfl
instance : UNT Tryd.prog 100 (.array 64 93) := ⟨un_100⟩
theorem un_120 : Tryd.prog.underlying 120 = some (.int .i64) := by kernel_rfl
instance : UNT Tryd.prog 120 (.int .i64) := ⟨un_120⟩
theorem un_130 : Tryd.prog.underlying 130 = some (.int .u64) := by kernel_rfl
instance : UNT Tryd.prog 130 (.int .u64) := ⟨un_130⟩
theorem un_139 : Tryd.prog.underlying 139 = some (.pointer 163) := by kernel_rfl
instance : UNT Tryd.prog 139 (.pointer 163) := ⟨un_139⟩
theorem pl_163 : placesT Tryd.prog 163 = some [(0, 1)] := by kernel_rfl
instance : PLT Tryd.prog 163 [(0, 1)] := ⟨pl_163⟩
theorem fo_53_0 : foff Tryd.prog 53 0 = some 0 := by kernel_rfl
instance : FO Tryd.prog 53 0 0 := ⟨fo_53_0⟩
theorem fo_53_1 : foff Tryd.prog 53 1 = some 1 := by kernel_rfl
instance : FO Tryd.prog 53 1 1 := ⟨fo_53_1⟩
theorem fo_53_2 : foff Tryd.prog 53 2 = some 2 := by kernel_rfl
instance : FO Tryd.prog 53 2 2 := ⟨fo_53_2⟩
theorem fo_53_3 : foff Tryd.prog 53 3 = some 3 := by kernel_rfl
instance : FO Tryd.prog 53 3 3 := ⟨fo_53_3⟩
theorem fo_60_0 : foff Tryd.prog 60 0 = some 0 := by kernel_rfl
instance : FO Tryd.prog 60 0 0 := ⟨fo_60_0⟩
theorem fo_60_1 : foff Tryd.prog 60 1 = some 1 := by kernel_rfl
instance : FO Tryd.prog 60 1 1 := ⟨fo_60_1⟩
theorem fo_60_2 : foff Tryd.prog 60 2 = some 2 := by kernel_rfl
instance : FO Tryd.prog 60 2 2 := ⟨fo_60_2⟩
theorem fo_60_3 : foff Tryd.prog 60 3 = some 3 := by kernel_rfl
instance : FO Tryd.prog 60 3 3 := ⟨fo_60_3⟩
theorem fo_60_4 : foff Tryd.prog 60 4 = some 4 := by kernel_rfl
instance : FO Tryd.prog 60 4 4 := ⟨fo_60_4⟩
theorem fo_64_0 : foff Tryd.prog 64 0 = some 0 := by kernel_rfl
instance : FO Tryd.prog 64 0 0 := ⟨fo_64_0⟩
theorem fo_64_1 : foff Tryd.prog 64 1 = some 1 := by kernel_rfl
instance : FO Tryd.prog 64 1 1 := ⟨fo_64_1⟩
theorem fo_64_2 : foff Tryd.prog 64 2 = some 2 := by kernel_rfl
instance : FO Tryd.prog 64 2 2 := ⟨fo_64_2⟩
theorem fo_64_3 : foff Tryd.prog 64 3 = some 3 := by kernel_rfl
instance : FO Tryd.prog 64 3 3 := ⟨fo_64_3⟩
theorem fo_99_0 : foff Tryd.prog 99 0 = some 0 := by kernel_rfl
instance : FO Tryd.prog 99 0 0 := ⟨fo_99_0⟩
theorem fo_99_1 : foff Tryd.prog 99 1 = some 8 := by kernel_rfl
instance : FO Tryd.prog 99 1 8 := ⟨fo_99_1⟩
theorem fo_99_2 : foff Tryd.prog 99 2 = some 9 := by kernel_rfl
instance : FO Tryd.prog 99 2 9 := ⟨fo_99_2⟩
theorem call_3 : okCall Tryd.prog 3 = true := by kernel_rfl
instance : CLT Tryd.prog 3 := ⟨call_3⟩
theorem call_4 : okCall Tryd.prog 4 = true := by kernel_rfl
instance : CLT Tryd.prog 4 := ⟨call_4⟩
theorem call_5 : okCall Tryd.prog 5 = true := by kernel_rfl
instance : CLT Tryd.prog 5 := ⟨call_5⟩
theorem call_6 : okCall Tryd.prog 6 = true := by kernel_rfl
instance : CLT Tryd.prog 6 := ⟨call_6⟩
theorem call_7 : okCall Tryd.prog 7 = true := by kernel_rfl
instance : CLT Tryd.prog 7 := ⟨call_7⟩
theorem call_8 : okCall Tryd.prog 8 = true := by kernel_rfl
instance : CLT Tryd.prog 8 := ⟨call_8⟩
theorem call_9 : okCall Tryd.prog 9 = true := by kernel_rfl
instance : CLT Tryd.prog 9 := ⟨call_9⟩
theorem call_10 : okCall Tryd.prog 10 = true := by kernel_rfl
instance : CLT Tryd.prog 10 := ⟨call_10⟩
theorem call_11 : okCall Tryd.prog 11 = true := by kernel_rfl
instance : CLT Tryd.prog 11 := ⟨call_11⟩
theorem call_12 : okCall Tryd.prog 12 = true := by kernel_rfl
instance : CLT Tryd.prog 12 := ⟨call_12⟩
theorem call_13 : okCall Tryd.prog 13 = true := by kernel_rfl
instance : CLT Tryd.prog 13 := ⟨call_13⟩
theorem call_14 : okCall Tryd.prog 14 = true := by kernel_rfl
instance : CLT Tryd.prog 14 := ⟨call_14⟩
theorem call_15 : okCall Tryd.prog 15 = true := by kernel_rfl
instance : CLT Tryd.prog 15 := ⟨call_15⟩
theorem call_16 : okCall Tryd.prog 16 = true := by kernel_rfl
instance : CLT Tryd.prog 16 := ⟨call_16⟩
theorem call_17 : okCall Tryd.prog 17 = true := by kernel_rfl
instance : CLT Tryd.prog 17 := ⟨call_17⟩
theorem call_18 : okCall Tryd.prog 18 = true := by kernel_rfl
instance : CLT Tryd.prog 18 := ⟨call_18⟩
theorem call_19 : okCall Tryd.prog 19 = true := by kernel_rfl
instance : CLT Tryd.prog 19 := ⟨call_19⟩
theorem call_20 : okCall Tryd.prog 20 = true := by kernel_rfl
instance : CLT Tryd.prog 20 := ⟨call_20⟩
theorem call_21 : okCall Tryd.prog 21 = true := by kernel_rfl
instance : CLT Tryd.prog 21 := ⟨call_21⟩
theorem call_22 : okCall Tryd.prog 22 = true := by kernel_rfl
instance : CLT Tryd.prog 22 := ⟨call_22⟩
theorem call_23 : okCall Tryd.prog 23 = true := by kernel_rfl
instance : CLT Tryd.prog 23 := ⟨call_23⟩
theorem call_24 : okCall Tryd.prog 24 = true := by kernel_rfl
instance : CLT Tryd.prog 24 := ⟨call_24⟩
theorem call_25 : okCall Tryd.prog 25 = true := by kernel_rfl
instance : CLT Tryd.prog 25 := ⟨call_25⟩
theorem call_26 : okCall Tryd.prog 26 = true := by kernel_rfl
instance : CLT Tryd.prog 26 := ⟨call_26⟩
theorem call_27 : okCall Tryd.prog 27 = true := by kernel_rfl
instance : CLT Tryd.prog 27 := ⟨call_27⟩
theorem call_28 : okCall Tryd.prog 28 = true := by kernel_rfl
instance : CLT Tryd.prog 28 := ⟨call_28⟩
theorem call_29 : okCall Tryd.prog 29 = true := by kernel_rfl
instance : CLT Tryd.prog 29 := ⟨call_29⟩
theorem call_30 : okCall Tryd.prog 30 = true := by kernel_rfl
instance : CLT Tryd.prog 30 := ⟨call_30⟩
theorem call_31 : okCall Tryd.prog 31 = true := by kernel_rfl
instance : CLT Tryd.prog 31 := ⟨call_31⟩
theorem call_32 : okCall Tryd.prog 32 = true := by kernel_rfl
instance : CLT Tryd.prog 32 := ⟨call_32⟩
theorem call_33 : okCall Tryd.prog 33 = true := by kernel_rfl
instance : CLT Tryd.prog 33 := ⟨call_33⟩
theorem call_34 : okCall Tryd.prog 34 = true := by kernel_rfl
instance : CLT Tryd.prog 34 := ⟨call_34⟩
theorem call_35 : okCall Tryd.prog 35 = true := by kernel_rfl
instance : CLT Tryd.prog 35 := ⟨call_35⟩
theorem call_36 : okCall Tryd.prog 36 = true := by kernel_rfl
instance : CLT Tryd.prog 36 := ⟨call_36⟩
theorem call_37 : okCall Tryd.prog 37 = true := by kernel_rfl
instance : CLT Tryd.prog 37 := ⟨call_37⟩
theorem call_38 : okCall Tryd.prog 38 = true := by kernel_rfl
instance : CLT Tryd.prog 38 := ⟨call_38⟩
theorem call_39 : okCall Tryd.prog 39 = true := by kernel_rfl
instance : CLT Tryd.prog 39 := ⟨call_39⟩
theorem call_40 : okCall Tryd.prog 40 = true := by kernel_rfl
instance : CLT Tryd.prog 40 := ⟨call_40⟩
theorem call_41 : okCall Tryd.prog 41 = true := by kernel_rfl
instance : CLT Tryd.prog 41 := ⟨call_41⟩
theorem call_42 : okCall Tryd.prog 42 = true := by kernel_rfl
instance : CLT Tryd.prog 42 := ⟨call_42⟩
theorem call_44 : okCall Tryd.prog 44 = true := by kernel_rfl
instance : CLT Tryd.prog 44 := ⟨call_44⟩
theorem call_45 : okCall Tryd.prog 45 = true := by kernel_rfl
instance : CLT Tryd.prog 45 := ⟨call_45⟩
theorem call_46 : okCall Tryd.prog 46 = true := by kernel_rfl
instance : CLT Tryd.prog 46 := ⟨call_46⟩
theorem call_47 : okCall Tryd.prog 47 = true := by kernel_rfl
instance : CLT Tryd.prog 47 := ⟨call_47⟩
theorem call_48 : okCall Tryd.prog 48 = true := by kernel_rfl
instance : CLT Tryd.prog 48 := ⟨call_48⟩
theorem call_49 : okCall Tryd.prog 49 = true := by kernel_rfl
instance : CLT Tryd.prog 49 := ⟨call_49⟩
theorem call_50 : okCall Tryd.prog 50 = true := by kernel_rfl
instance : CLT Tryd.prog 50 := ⟨call_50⟩
theorem call_51 : okCall Tryd.prog 51 = true := by kernel_rfl
instance : CLT Tryd.prog 51 := ⟨call_51⟩
theorem call_52 : okCall Tryd.prog 52 = true := by kernel_rfl
instance : CLT Tryd.prog 52 := ⟨call_52⟩
theorem call_53 : okCall Tryd.prog 53 = true := by kernel_rfl
instance : CLT Tryd.prog 53 := ⟨call_53⟩
theorem call_54 : okCall Tryd.prog 54 = true := by kernel_rfl
instance : CLT Tryd.prog 54 := ⟨call_54⟩
theorem call_55 : okCall Tryd.prog 55 = true := by kernel_rfl
instance : CLT Tryd.prog 55 := ⟨call_55⟩
theorem call_56 : okCall Tryd.prog 56 = true := by kernel_rfl
instance : CLT Tryd.prog 56 := ⟨call_56⟩
theorem call_57 : okCall Tryd.prog 57 = true := by kernel_rfl
instance : CLT Tryd.prog 57 := ⟨call_57⟩
theorem call_58 : okCall Tryd.prog 58 = true := by kernel_rfl
instance : CLT Tryd.prog 58 := ⟨call_58⟩
theorem call_59 : okCall Tryd.prog 59 = true := by kernel_rfl
instance : CLT Tryd.prog 59 := ⟨call_59⟩
theorem call_60 : okCall Tryd.prog 60 = true := by kernel_rfl
instance : CLT Tryd.prog 60 := ⟨call_60⟩
theorem call_61 : okCall Tryd.prog 61 = true := by kernel_rfl
instance : CLT Tryd.prog 61 := ⟨call_61⟩
theorem call_62 : okCall Tryd.prog 62 = true := by kernel_rfl
instance : CLT Tryd.prog 62 := ⟨call_62⟩
theorem call_63 : okCall Tryd.prog 63 = true := by kernel_rfl
instance : CLT Tryd.prog 63 := ⟨call_63⟩
theorem call_64 : okCall Tryd.prog 64 = true := by kernel_rfl
instance : CLT Tryd.prog 64 := ⟨call_64⟩
theorem call_65 : okCall Tryd.prog 65 = true := by kernel_rfl
instance : CLT Tryd.prog 65 := ⟨call_65⟩
theorem call_66 : okCall Tryd.prog 66 = true := by kernel_rfl
instance : CLT Tryd.prog 66 := ⟨call_66⟩
theorem call_67 : okCall Tryd.prog 67 = true := by kernel_rfl
instance : CLT Tryd.prog 67 := ⟨call_67⟩
theorem call_68 : okCall Tryd.prog 68 = true := by kernel_rfl
instance : CLT Tryd.prog 68 := ⟨call_68⟩
theorem call_69 : okCall Tryd.prog 69 = true := by kernel_rfl
instance : CLT Tryd.prog 69 := ⟨call_69⟩
theorem call_70 : okCall Tryd.prog 70 = true := by kernel_rfl
instance : CLT Tryd.prog 70 := ⟨call_70⟩
theorem call_71 : okCall Tryd.prog 71 = true := by kernel_rfl
instance : CLT Tryd.prog 71 := ⟨call_71⟩
theorem call_72 : okCall Tryd.prog 72 = true := by kernel_rfl
instance : CLT Tryd.prog 72 := ⟨call_72⟩
theorem call_73 : okCall Tryd.prog 73 = true := by kernel_rfl
instance : CLT Tryd.prog 73 := ⟨call_73⟩
theorem call_74 : okCall Tryd.prog 74 = true := by kernel_rfl
instance : CLT Tryd.prog 74 := ⟨call_74⟩
theorem call_75 : okCall Tryd.prog 75 = true := by kernel_rfl
instance : CLT Tryd.prog 75 := ⟨call_75⟩
theorem call_76 : okCall Tryd.prog 76 = true := by kernel_rfl
instance : CLT Tryd.prog 76 := ⟨call_76⟩
theorem call_107 : okCall Tryd.prog 107 = true := by kernel_rfl
instance : CLT Tryd.prog 107 := ⟨call_107⟩
theorem call_129 : okCall Tryd.prog 129 = true := by kernel_rfl
instance : CLT Tryd.prog 129 := ⟨call_129⟩

end Ty
end Go.Proofs.YtffkjjakceojfaaDoor

/- Walks, by program (wg.py) out of a spec. -/
namespace Go.Proofs.YtffkjjakceojfaaDoor
open Go
set_option linter.unusedVariables false
set_option linter.unusedSimpArgs false


/-- An error by its number (0: none): a pointer to the number's own text. -/
@[irreducible] def eV (TE : TypeId) (ea : Nat → Addr) : Nat → Value
  | 0 => .nilIface
  | k + 1 => .iface TE (.pointer (some (ea (k + 1))))
theorem eV_one (TE : TypeId) (ea : Nat → Addr) (k : Nat) : (eV TE ea k).oneCell' = true := by cases k <;> (unfold eV; rfl)
instance {TE : TypeId} {ea : Nat → Addr} {k : Nat} : One1 (eV TE ea k) := ⟨eV_one TE ea k⟩
theorem eV_cells (TE : TypeId) (ea : Nat → Addr) (k : Nat) : (eV TE ea k).cells.toList = [eV TE ea k] := by cases k <;> (unfold eV; rfl)
theorem eV_zero (TE : TypeId) (ea : Nat → Addr) : eV TE ea 0 = .nilIface := by unfold eV; rfl

theorem run_equal_nil {P : Program} {T TE k : Nat} {ea : Nat → Addr} (ht : ifcT P T = true) (w : World) : (Op.equal T (eV TE ea k) .nilIface).run P w = .ok (decide (k = 0)) w := by
  obtain ⟨ms, hu⟩ := run_ifcT ht
  cases k with
  | zero =>
    have h : ∀ d : Nat, (Op.equalIn (d + 1) T .nilIface .nilIface).run P w = .ok true w := fun d => by simp [Op.equalIn, run_underlying hu]
    unfold eV
    simp [Op.equal, Op.maxDepth, h 9999]
  | succ k =>
    have h : ∀ d : Nat, (Op.equalIn (d + 1) T (.iface TE (.pointer (some (ea (k + 1))))) .nilIface).run P w = .ok false w := fun d => by simp [Op.equalIn, run_underlying hu]
    unfold eV
    simp [Op.equal, Op.maxDepth, h 9999]
section
variable {P : Program} {w0 : World} {F0 : Nat → Prop} {L : List Res} {n : Nat} {env : Env} {d : Option Tmp} {ty : TypeId} {pos : String} {af : Array Edge} {gd : Option (Nat × Bool)} {T T' : TypeId} {x : Operand} {TE k : Nat} {ea : Nat → Addr}
theorem r_eqnil (hx : ev n env x = eV TE ea k) (ht : ifcT P T = true) : Runs P w0 F0 L n env ⟨d, .binOp .eql T x (.const .nilIface) T', ty, pos, af, gd⟩ (.bool (decide (k = 0))) := fun w _ => by
  have h := run_equal_nil (P := P) (TE := TE) (k := k) (ea := ea) ht w
  have hg : (eqGuard .eql T x (.const .nilIface) (ev n env x) .nilIface).run P w = .ok () w := by
    rw [hx]; cases k <;> (unfold eV; simp [eqGuard])
  have hb : (binOp .eql T (ev n env x) .nilIface).run P w = .ok (.bool (decide (k = 0))) w := by
    rw [hx]; cases k <;> (unfold eV at h ⊢; simp only [binOp]; simp [h])
  simp only [execOp, Sem.run_bind]
  rw [show ev n env (.const .nilIface) = .nilIface from rfl, hg, Result.andThen_ok, hb]
  rfl
theorem r_nenil (hx : ev n env x = eV TE ea k) (ht : ifcT P T = true) : Runs P w0 F0 L n env ⟨d, .binOp .neq T x (.const .nilIface) T', ty, pos, af, gd⟩ (.bool (!decide (k = 0))) := fun w _ => by
  have h := run_equal_nil (P := P) (TE := TE) (k := k) (ea := ea) ht w
  have hg : (eqGuard .neq T x (.const .nilIface) (ev n env x) .nilIface).run P w = .ok () w := by
    rw [hx]; cases k <;> (unfold eV; simp [eqGuard])
  have hb : (binOp .neq T (ev n env x) .nilIface).run P w = .ok (.bool (!decide (k = 0))) w := by
    rw [hx]; cases k <;> (unfold eV at h ⊢; simp only [binOp]; simp [h])
  simp only [execOp, Sem.run_bind]
  rw [show ev n env (.const .nilIface) = .nilIface from rfl, hg, Result.andThen_ok, hb]
  rfl
end


def errG : Nat → Nat
  | 1 => 0
  | 2 => 3
  | 3 => 4
  | 4 => 5
  | 5 => 6
  | 6 => 7
  | 7 => 2
  | 8 => 1
  | 9 => 8
  | 10 => 9
  | 11 => 10
  | 12 => 11
  | 13 => 12
  | 14 => 13
  | 15 => 14
  | 16 => 15
  | 17 => 16
  | _ => 17
/-- es has this error. -/
class Has (es : List Nat) (i : Nat) : Prop where
  h : i ∈ es
instance {i : Nat} {l : List Nat} : Has (i :: l) i := ⟨List.mem_cons_self⟩
instance {i j : Nat} {l : List Nat} [k : Has l i] : Has (j :: l) i := ⟨List.mem_cons_of_mem _ k.h⟩
/-- These errors' variables hold their errors, and lie in A. -/
structure GErr (es : List Nat) (w : World) (A : Nat → Prop) (TE : TypeId) (ea : Nat → Addr) : Prop where
  c : ∀ i, i ∈ es → w.cell? ⟨errG i, 0, none⟩ = some (eV TE ea i)
  n : ∀ i, i ∈ es → A (errG i)
theorem GErr.mv {es : List Nat} {w w' : World} {A A' : Nat → Prop} {TE : TypeId} {ea : Nat → Addr} (h : GErr es w A TE ea) (hk : ∀ k, k < w.heap.size → A k → w'.heap[k]? = w.heap[k]? ∧ A' k) : GErr es w' A' TE ea :=
  ⟨fun i hi => by
    have := hk _ (World.block_lt_of_cell? w ⟨errG i, 0, none⟩ (h.c i hi)) (h.n i hi)
    rw [World.cell?_of_block (w := w) (a := ⟨errG i, 0, none⟩) this.1]; exact h.c i hi,
   fun i hi => (hk _ (World.block_lt_of_cell? w ⟨errG i, 0, none⟩ (h.c i hi)) (h.n i hi)).2⟩

end Go.Proofs.YtffkjjakceojfaaDoor

/- What memory reads as: digests, signatures, certificates, blocks. -/
namespace Go.Proofs.YtffkjjakceojfaaDoor
open Go
set_option linter.unusedVariables false

structure Sig where
  leaf : Int
  chains : List Dig
  path : List Dig
  deriving DecidableEq
structure Signed where
  who : Int
  sig : Sig
  deriving DecidableEq
structure Vdr where
  key : Dig
  power : Int
  deriving DecidableEq
structure QC where
  epoch : Int
  round : Int
  block : Dig
  votes : List Signed
  deriving DecidableEq
structure Late where
  who : Int
  high : Int
  sig : Sig
  deriving DecidableEq
structure TC where
  epoch : Int
  round : Int
  lates : List Late
  deriving DecidableEq
structure Block where
  epoch : Int
  round : Int
  parent : Dig
  justify : QC
  payload : List (List UInt8)
  next : List Vdr
  deriving DecidableEq

structure Vote where
  epoch : Int
  round : Int
  block : Dig
  sender : Signed
  deriving DecidableEq
structure Tmo where
  epoch : Int
  round : Int
  high : QC
  last : TC
  sender : Signed
  deriving DecidableEq
structure Prop' where
  block : Block
  last : TC
  sender : Signed
  deriving DecidableEq
structure Chg where
  blocks : List Block
  qc : QC
  deriving DecidableEq
structure Msg where
  kind : Int
  vote : Vote
  tmo : Tmo
  prop : Prop'
  wantFrom : Dig
  wantBlock : Dig
  reply : Block
  chg : Chg
  deriving DecidableEq

/-- What is there in w at blocks of A is there in w' at blocks of A'. -/
def Still (w : World) (A : Nat → Prop) (w' : World) (A' : Nat → Prop) : Prop := ∀ k, k < w.heap.size → A k → w'.heap[k]? = w.heap[k]? ∧ A' k

/-! ### Lists -/
def RdList {α : Type} (rd : List Value → α → Prop) (w : World) (A : Nat → Prop) (size : Nat) (a : Option Addr) (n : Nat) (l : List α) : Prop :=
  ∃ css : List (List Value), RdRow w A size a n css.flatten ∧ (∀ c ∈ css, c.length = size) ∧ css.length = l.length ∧ ∀ (i : Nat) (c : List Value) (x : α), css[i]? = some c → l[i]? = some x → rd c x
theorem flatten_len {size : Nat} : ∀ {css : List (List Value)}, (∀ c ∈ css, c.length = size) → css.flatten.length = css.length * size
  | [], _ => by simp
  | c :: l, h => by
    rw [List.flatten_cons, List.length_append, flatten_len (fun c' hc' => h c' (by simp [hc'])), h c (by simp), List.length_cons, Nat.add_mul, Nat.one_mul, Nat.add_comm]
theorem flatten_at {size : Nat} : ∀ {css : List (List Value)} {i : Nat} {c : List Value}, (∀ c ∈ css, c.length = size) → css[i]? = some c → (css.flatten.drop (i * size)).take size = c
  | [], i, c, _, hi => by simp at hi
  | d :: l, 0, c, h, hi => by
    simp at hi; subst hi
    simp only [Nat.zero_mul, List.drop_zero, List.flatten_cons]
    rw [← h d (by simp)]; exact List.take_left
  | d :: l, i + 1, c, h, hi => by
    have hd := h d (by simp)
    simp only [List.getElem?_cons_succ] at hi
    rw [List.flatten_cons, List.drop_append, List.drop_eq_nil_of_le (by rw [hd, Nat.add_mul, Nat.one_mul]; omega), List.nil_append, hd, show (i + 1) * size - size = i * size by rw [Nat.add_mul, Nat.one_mul]; omega]
    exact flatten_at (fun c' hc' => h c' (by simp [hc'])) hi
section list
variable {α : Type} {rd rd' : List Value → α → Prop} {w w' : World} {A A' : Nat → Prop} {size n : Nat} {a : Option Addr} {l : List α}
theorem RdList.len (h : RdList rd w A size a n l) (hs : 0 < size) : n = l.length := by
  obtain ⟨css, hr, hc, hl, _⟩ := h
  have := hr.1
  rw [flatten_len hc, hl] at this
  exact (Nat.eq_of_mul_eq_mul_right hs this).symm
theorem RdList.max (h : RdList rd w A size a n l) : n ≤ maxLen := by obtain ⟨css, hr, _⟩ := h; exact hr.2.1
theorem RdList.elem (h : RdList rd w A size a n l) (hs : 0 < size) {i : Nat} (hi : i < n) :
    ∃ g o c x, a = some ⟨g, o, none⟩ ∧ A g ∧ g < w.heap.size ∧ w.rangeAt g (o + i * size) c ∧ c.length = size ∧ l[i]? = some x ∧ rd c x := by
  have hn := h.len hs
  obtain ⟨css, hr, hc, hl, hx⟩ := h
  obtain ⟨g, o, ha, hA, hg, hra⟩ := hr.elem hi
  have hci : css[i]? = some (css[i]'(by omega)) := List.getElem?_eq_getElem (by omega)
  have hli : l[i]? = some (l[i]'(by omega)) := List.getElem?_eq_getElem (by omega)
  rw [flatten_at hc hci] at hra
  exact ⟨g, o, _, _, ha, hA, hg, hra, hc _ (List.mem_of_getElem? hci), hli, hx i _ _ hci hli⟩
theorem RdList.mv (h : RdList rd w A size a n l) (hk : Still w A w' A') (hrd : ∀ c x, rd c x → rd' c x) : RdList rd' w' A' size a n l := by
  obtain ⟨css, hr, hc, hl, hx⟩ := h
  exact ⟨css, hr.mv hk, hc, hl, fun i c x h1 h2 => hrd c x (hx i c x h1 h2)⟩
theorem RdList.nil : RdList rd w A size a 0 ([] : List α) :=
  ⟨[], RdRow.nil, (by intro c hc; cases hc), rfl, (by intro i c x h; simp at h)⟩
end list

/-! ### The kinds -/
def RdDig (cs : List Value) (d : Dig) : Prop := cs = dc d
def RdBytes (w : World) (A : Nat → Prop) (cs : List Value) (b : List UInt8) : Prop := ∃ a n c, cs = [.slice a n c] ∧ n ≤ c ∧ RdRow w A 1 a n (b.map B8)
def RdDigs (w : World) (A : Nat → Prop) (a : Option Addr) (n : Nat) (l : List Dig) : Prop := RdList RdDig w A 16 a n l
def cSig (s : Sig) (a1 : Option Addr) (n1 c1 : Nat) (a2 : Option Addr) (n2 c2 : Nat) : List Value := [.int .i64 s.leaf, .slice a1 n1 c1, .slice a2 n2 c2]
def RdSig (w : World) (A : Nat → Prop) (cs : List Value) (s : Sig) : Prop :=
  ∃ a1 n1 c1 a2 n2 c2, cs = [.int .i64 s.leaf, .slice a1 n1 c1, .slice a2 n2 c2] ∧ n1 ≤ c1 ∧ n2 ≤ c2 ∧ RdDigs w A a1 n1 s.chains ∧ RdDigs w A a2 n2 s.path
def RdSigned (w : World) (A : Nat → Prop) (cs : List Value) (s : Signed) : Prop := ∃ ss, cs = .int .i64 s.who :: ss ∧ RdSig w A ss s.sig
def RdVdr (cs : List Value) (v : Vdr) : Prop := cs = dc v.key ++ [.int .i64 v.power]
def RdQC (w : World) (A : Nat → Prop) (cs : List Value) (q : QC) : Prop :=
  ∃ a n c, cs = .int .i64 q.epoch :: .int .i64 q.round :: (dc q.block ++ [.slice a n c]) ∧ n ≤ c ∧ RdList (RdSigned w A) w A 4 a n q.votes
def RdLate (w : World) (A : Nat → Prop) (cs : List Value) (l : Late) : Prop := ∃ ss, cs = .int .i64 l.who :: .int .i64 l.high :: ss ∧ RdSig w A ss l.sig
def RdTC (w : World) (A : Nat → Prop) (cs : List Value) (t : TC) : Prop :=
  ∃ a n c, cs = [.int .i64 t.epoch, .int .i64 t.round, .slice a n c] ∧ n ≤ c ∧ RdList (RdLate w A) w A 5 a n t.lates
def RdBlock (w : World) (A : Nat → Prop) (cs : List Value) (b : Block) : Prop :=
  ∃ q a1 n1 c1 a2 n2 c2, cs = .int .i64 b.epoch :: .int .i64 b.round :: (dc b.parent ++ (q ++ [.slice a1 n1 c1, .slice a2 n2 c2])) ∧ RdQC w A q b.justify ∧
    n1 ≤ c1 ∧ RdList (RdBytes w A) w A 1 a1 n1 b.payload ∧ n2 ≤ c2 ∧ RdList RdVdr w A 17 a2 n2 b.next

def RdVote (w : World) (A : Nat → Prop) (cs : List Value) (v : Vote) : Prop := ∃ sg, cs = .int .i64 v.epoch :: .int .i64 v.round :: (dc v.block ++ sg) ∧ RdSigned w A sg v.sender
def RdTmo (w : World) (A : Nat → Prop) (cs : List Value) (v : Tmo) : Prop := ∃ q t sg, cs = .int .i64 v.epoch :: .int .i64 v.round :: (q ++ (t ++ sg)) ∧ RdQC w A q v.high ∧ RdTC w A t v.last ∧ RdSigned w A sg v.sender
def RdProp (w : World) (A : Nat → Prop) (cs : List Value) (v : Prop') : Prop := ∃ b t sg, cs = b ++ (t ++ sg) ∧ RdBlock w A b v.block ∧ RdTC w A t v.last ∧ RdSigned w A sg v.sender
def RdChg (w : World) (A : Nat → Prop) (cs : List Value) (c : Chg) : Prop :=
  ∃ (css : List (List Value)) (q : List Value), cs = css.flatten ++ q ∧ (∀ x ∈ css, x.length = 39) ∧ css.length = 3 ∧ c.blocks.length = 3 ∧ (∀ (i : Nat) (x : List Value) (b : Block), css[i]? = some x → c.blocks[i]? = some b → RdBlock w A x b) ∧ RdQC w A q c.qc
def RdMsg (w : World) (A : Nat → Prop) (cs : List Value) (m : Msg) : Prop :=
  ∃ v t p r c, cs = .int .i64 m.kind :: (v ++ (t ++ (p ++ (dc m.wantFrom ++ (dc m.wantBlock ++ (r ++ c)))))) ∧ RdVote w A v m.vote ∧ RdTmo w A t m.tmo ∧ RdProp w A p m.prop ∧ RdBlock w A r m.reply ∧ RdChg w A c m.chg

section mv
variable {w w' : World} {A A' : Nat → Prop} {cs : List Value}
theorem RdBytes.mv {b : List UInt8} (h : RdBytes w A cs b) (hk : Still w A w' A') : RdBytes w' A' cs b := by
  obtain ⟨a, n, c, h1, h2, h3⟩ := h; exact ⟨a, n, c, h1, h2, h3.mv hk⟩
theorem RdDigs.mv {a : Option Addr} {n : Nat} {l : List Dig} (h : RdDigs w A a n l) (hk : Still w A w' A') : RdDigs w' A' a n l := RdList.mv h hk fun _ _ h => h
theorem RdSig.mv {s : Sig} (h : RdSig w A cs s) (hk : Still w A w' A') : RdSig w' A' cs s := by
  obtain ⟨a1, n1, c1, a2, n2, c2, h1, h2, h3, h4, h5⟩ := h; exact ⟨a1, n1, c1, a2, n2, c2, h1, h2, h3, h4.mv hk, h5.mv hk⟩
theorem RdSigned.mv {s : Signed} (h : RdSigned w A cs s) (hk : Still w A w' A') : RdSigned w' A' cs s := by
  obtain ⟨ss, h1, h2⟩ := h; exact ⟨ss, h1, h2.mv hk⟩
theorem RdQC.mv {q : QC} (h : RdQC w A cs q) (hk : Still w A w' A') : RdQC w' A' cs q := by
  obtain ⟨a, n, c, h1, h2, h3⟩ := h; exact ⟨a, n, c, h1, h2, RdList.mv h3 hk fun _ _ h => h.mv hk⟩
theorem RdLate.mv {l : Late} (h : RdLate w A cs l) (hk : Still w A w' A') : RdLate w' A' cs l := by
  obtain ⟨ss, h1, h2⟩ := h; exact ⟨ss, h1, h2.mv hk⟩
theorem RdTC.mv {t : TC} (h : RdTC w A cs t) (hk : Still w A w' A') : RdTC w' A' cs t := by
  obtain ⟨a, n, c, h1, h2, h3⟩ := h; exact ⟨a, n, c, h1, h2, RdList.mv h3 hk fun _ _ h => h.mv hk⟩
theorem RdBlock.mv {b : Block} (h : RdBlock w A cs b) (hk : Still w A w' A') : RdBlock w' A' cs b := by
  obtain ⟨q, a1, n1, c1, a2, n2, c2, h1, h2, h3, h4, h5, h6⟩ := h
  exact ⟨q, a1, n1, c1, a2, n2, c2, h1, h2.mv hk, h3, RdList.mv h4 hk fun _ _ h => h.mv hk, h5, RdList.mv h6 hk fun _ _ h => h⟩
theorem RdSig.len {s : Sig} (h : RdSig w A cs s) : cs.length = 3 := by obtain ⟨_, _, _, _, _, _, h, _⟩ := h; subst h; rfl
theorem RdSigned.len {s : Signed} (h : RdSigned w A cs s) : cs.length = 4 := by obtain ⟨ss, h, h2⟩ := h; subst h; simp [h2.len]
theorem RdLate.len {s : Late} (h : RdLate w A cs s) : cs.length = 5 := by obtain ⟨ss, h, h2⟩ := h; subst h; simp [h2.len]
theorem RdQC.len {q : QC} (h : RdQC w A cs q) : cs.length = 19 := by obtain ⟨_, _, _, h, _⟩ := h; subst h; simp [dc_length]
theorem RdTC.len {t : TC} (h : RdTC w A cs t) : cs.length = 3 := by obtain ⟨_, _, _, h, _⟩ := h; subst h; rfl
theorem RdVdr.len {v : Vdr} (h : RdVdr cs v) : cs.length = 17 := by subst h; simp [dc_length]
theorem RdBlock.len {b : Block} (h : RdBlock w A cs b) : cs.length = 39 := by obtain ⟨q, _, _, _, _, _, _, h, hq, _⟩ := h; subst h; simp [dc_length, hq.len]
theorem RdSig.one {s : Sig} (h : RdSig w A cs s) : ∀ v ∈ cs, v.oneCell' = true := by obtain ⟨_, _, _, _, _, _, h, _⟩ := h; subst h; exact all_cons' rfl (all_cons' rfl (all_cons' rfl all_nil'))
theorem RdSigned.one {s : Signed} (h : RdSigned w A cs s) : ∀ v ∈ cs, v.oneCell' = true := by obtain ⟨ss, h, h2⟩ := h; subst h; exact all_cons' rfl h2.one
theorem RdLate.one {s : Late} (h : RdLate w A cs s) : ∀ v ∈ cs, v.oneCell' = true := by obtain ⟨ss, h, h2⟩ := h; subst h; exact all_cons' rfl (all_cons' rfl h2.one)
theorem RdQC.one {q : QC} (h : RdQC w A cs q) : ∀ v ∈ cs, v.oneCell' = true := by obtain ⟨_, _, _, h, _⟩ := h; subst h; exact all_cons' rfl (all_cons' rfl (all_app' (dc_one _) (all_cons' rfl all_nil')))
theorem RdTC.one {t : TC} (h : RdTC w A cs t) : ∀ v ∈ cs, v.oneCell' = true := by obtain ⟨_, _, _, h, _⟩ := h; subst h; exact all_cons' rfl (all_cons' rfl (all_cons' rfl all_nil'))
theorem RdVdr.one {v : Vdr} (h : RdVdr cs v) : ∀ u ∈ cs, u.oneCell' = true := by subst h; exact all_app' (dc_one _) (all_cons' rfl all_nil')
theorem RdBlock.one {b : Block} (h : RdBlock w A cs b) : ∀ v ∈ cs, v.oneCell' = true := by
  obtain ⟨q, _, _, _, _, _, _, h, hq, _⟩ := h; subst h; exact all_cons' rfl (all_cons' rfl (all_app' (dc_one _) (all_app' hq.one (all_cons' rfl (all_cons' rfl all_nil')))))
theorem RdVote.mv {v : Vote} (h : RdVote w A cs v) (hk : Still w A w' A') : RdVote w' A' cs v := by
  obtain ⟨sg, h1, h2⟩ := h; exact ⟨sg, h1, h2.mv hk⟩
theorem RdTmo.mv {v : Tmo} (h : RdTmo w A cs v) (hk : Still w A w' A') : RdTmo w' A' cs v := by
  obtain ⟨q, t, sg, h1, h2, h3, h4⟩ := h; exact ⟨q, t, sg, h1, h2.mv hk, h3.mv hk, h4.mv hk⟩
theorem RdProp.mv {v : Prop'} (h : RdProp w A cs v) (hk : Still w A w' A') : RdProp w' A' cs v := by
  obtain ⟨b, t, sg, h1, h2, h3, h4⟩ := h; exact ⟨b, t, sg, h1, h2.mv hk, h3.mv hk, h4.mv hk⟩
theorem RdChg.mv {v : Chg} (h : RdChg w A cs v) (hk : Still w A w' A') : RdChg w' A' cs v := by
  obtain ⟨css, q, h1, h2, h3, h4, h5, h6⟩ := h; exact ⟨css, q, h1, h2, h3, h4, fun i x b hx hb => (h5 i x b hx hb).mv hk, h6.mv hk⟩
theorem RdMsg.mv {m : Msg} (h : RdMsg w A cs m) (hk : Still w A w' A') : RdMsg w' A' cs m := by
  obtain ⟨v, t, p, r, c, h1, h2, h3, h4, h5, h6⟩ := h; exact ⟨v, t, p, r, c, h1, h2.mv hk, h3.mv hk, h4.mv hk, h5.mv hk, h6.mv hk⟩
theorem RdVote.len {v : Vote} (h : RdVote w A cs v) : cs.length = 22 := by obtain ⟨sg, h1, h2⟩ := h; subst h1; simp [dc_length, h2.len]
theorem RdTmo.len {v : Tmo} (h : RdTmo w A cs v) : cs.length = 28 := by obtain ⟨q, t, sg, h1, h2, h3, h4⟩ := h; subst h1; simp [h2.len, h3.len, h4.len]
theorem RdProp.len {v : Prop'} (h : RdProp w A cs v) : cs.length = 46 := by obtain ⟨q, t, sg, h1, h2, h3, h4⟩ := h; subst h1; simp [h2.len, h3.len, h4.len]
theorem RdChg.len {v : Chg} (h : RdChg w A cs v) : cs.length = 136 := by obtain ⟨css, q, h1, h2, h3, h4, h5, h6⟩ := h; subst h1; simp only [List.length_append, flatten_len h2, h6.len, h3]
theorem RdMsg.len {m : Msg} (h : RdMsg w A cs m) : cs.length = 304 := by obtain ⟨v, t, p, r, c, h1, h2, h3, h4, h5, h6⟩ := h; subst h1; simp only [List.length_cons, List.length_append, dc_length, h2.len, h3.len, h4.len, h5.len, h6.len]
end mv
theorem Stp.still {w0 w : World} {F0 F1 F2 : Nat → Prop} (h : Stp w0 F0 w (fun k => F1 k ∨ F2 k)) : Still w0 (fun k => ¬ F0 k) w (fun k => ¬ F1 k) := h.rd
end Go.Proofs.YtffkjjakceojfaaDoor

/- The shell, part F (with part A): what an argument reads as, rows of bytes, numbers, bools, as the walks' reading of memory. -/
namespace Go.Proofs.YtffkjjakceojfaaDoor
open Go
set_option linter.unusedVariables false
set_option linter.unusedSimpArgs false

section
variable {H : Type} {enc : TypeId × Value → H} {P : Program} {w : World} {base : Nat} {sp : Nat → Bool} {held : Bool}
/-- Cells of type T read as something that rd says. -/
def Opens {α : Type} (enc : TypeId × Value → H) (P : Program) (w : World) (base : Nat) (sp : Nat → Bool) (held : Bool) (T : TypeId) (rd : List Value → α → Prop) : Prop :=
  ∀ fuel cs x, DataW.trod enc P w base sp held fuel T cs = some x → ∃ o, rd cs o
theorem cellsOf_sz {e s : Nat} (hs : szT P e = some s) : P.cellsOf e = s := by
  unfold szT at hs
  cases hi : P.info? e with
  | none => simp [hi] at hs
  | some i => simp [hi] at hs; simp [Program.cellsOf, hi, hs]
theorem opens_int {T : TypeId} {k : IntKind} (ht : P.underlying T = some (.int k)) : Opens enc P w base sp held T (fun cs n => cs = [.int k n]) := fun fuel cs x h => by
  obtain ⟨n, h1, _⟩ := DataW.trod_int ht h
  exact ⟨n, h1⟩
theorem opens_dig {T e : TypeId} (ht : arrT P T = some (16, e)) (he : P.underlying e = some (.int .u8)) (hs : szT P e = some 1) (hsT : szT P T = some 16) : Opens enc P w base sp held T RdDig := fun fuel cs x h => by
  obtain ⟨xs, m, rfl, rfl, hl, hx, hi⟩ := DataW.trod_array (run_arrT ht) h
  rw [cellsOf_sz hsT] at hl
  have hb : ∀ i, i < 16 → ∃ b : UInt8, cs[i]? = some (B8 b) := fun i hi16 => by
    have h1 := hi i hi16
    rw [cellsOf_sz hs, List.getElem?_eq_getElem (by omega)] at h1
    obtain ⟨n, h2, _, h3⟩ := DataW.trod_int he h1
    have h4 : cs[i]? = some (.int .u8 n) := by
      have : ((cs.drop (i * 1)).take 1)[0]? = some (.int .u8 n) := by rw [h2]; rfl
      rw [List.getElem?_take] at this
      simpa using this
    have hn : 0 ≤ n ∧ n ≤ 255 := by
      simp [Lit.wf, IntKind.min, IntKind.max, IntKind.signed, IntKind.bits] at h3; omega
    refine ⟨UInt8.ofNat n.toNat, ?_⟩
    rw [h4]
    simp only [B8, UInt8.toNat_ofNat', Option.some.injEq, Value.int.injEq, true_and]
    omega
  have hall : ∃ l : List UInt8, l.map B8 = cs := by
    have : ∀ (cs : List Value), (∀ i, i < cs.length → ∃ b : UInt8, cs[i]? = some (B8 b)) → ∃ l : List UInt8, l.map B8 = cs := by
      intro cs
      induction cs with
      | nil => intro _; exact ⟨[], rfl⟩
      | cons v r ih =>
        intro hh
        obtain ⟨b, hb0⟩ := hh 0 (by simp)
        obtain ⟨l, hl'⟩ := ih fun i hi' => by simpa using hh (i + 1) (by simpa using hi')
        simp at hb0
        exact ⟨b :: l, by simp [hl', hb0]⟩
    exact this cs (by rw [hl]; exact hb)
  obtain ⟨l, hl'⟩ := hall
  exact ⟨⟨l, by have := congrArg List.length hl'; simp at this; omega⟩, by rw [RdDig, dc]; exact hl'.symm⟩
theorem opens_byte {T : TypeId} (he : P.underlying T = some (.int .u8)) : Opens enc P w base sp held T (fun cs (b : UInt8) => cs = [B8 b]) := fun fuel cs x h => by
  obtain ⟨n, h2, _, h3⟩ := DataW.trod_int he h
  have hn : 0 ≤ n ∧ n ≤ 255 := by
    simp [Lit.wf, IntKind.min, IntKind.max, IntKind.signed, IntKind.bits] at h3; omega
  refine ⟨UInt8.ofNat n.toNat, ?_⟩
  rw [h2]
  simp only [B8, UInt8.toNat_ofNat', List.cons.injEq, Value.int.injEq, true_and, and_true]
  omega
theorem choose_list {α : Type} {rd : List Value → α → Prop} : ∀ (n : Nat) (f : Nat → List Value), (∀ i, i < n → ∃ o, rd (f i) o) → ∃ l : List α, l.length = n ∧ ∀ i o, l[i]? = some o → rd (f i) o
  | 0, _, _ => ⟨[], rfl, fun i o h => by simp at h⟩
  | n + 1, f, h => by
    obtain ⟨l, h1, h2⟩ := choose_list n f fun i hi => h i (by omega)
    obtain ⟨o, ho⟩ := h n (by omega)
    refine ⟨l ++ [o], by simp [h1], fun i x hx => ?_⟩
    by_cases hi : i < l.length
    · rw [List.getElem?_append_left hi] at hx; exact h2 i x hx
    · rw [List.getElem?_append_right (by omega)] at hx
      have : i - l.length = 0 := by
        rcases Nat.eq_zero_or_pos (i - l.length) with h0 | h0
        · exact h0
        · rw [List.getElem?_eq_none (by simp; omega)] at hx; cases hx
      rw [this] at hx
      simp at hx; subst hx
      rw [show i = n by omega]; exact ho
theorem opens_slice {α : Type} {rd : List Value → α → Prop} {T e : TypeId} {s : Nat} (ht : sliceT P T = some e) (hs : szT P e = some s) (hpos : 0 < s) (he : Opens enc P w base sp held e rd) :
    Opens enc P w base sp held T (fun cs (l : List α) => ∃ a n c, cs = [.slice a n c] ∧ n ≤ c ∧ RdList rd w (fun _ => True) s a n l) := fun fuel cs x h => by
  rcases DataW.trod_slice (run_sliceT ht) h with ⟨rfl, _⟩ | ⟨a, len, cap, elems, rest, m, rfl, rfl, _, hb, hlc, hcm, hel, hi, _, _⟩
  · exact ⟨[], none, 0, 0, rfl, Nat.le_refl _, RdList.nil⟩
  · rw [cellsOf_sz hs] at hi
    have hc : ∀ i, i < len → ∃ cs, w.cells? base (a.add (i * s)) s = some cs ∧ ∃ o, rd cs o := fun i hil => by
      have h1 := hi i hil
      rw [List.getElem?_eq_getElem (by omega)] at h1
      cases hcs : w.cells? base (a.add (i * s)) s with
      | none => simp [hcs] at h1
      | some cs => rw [hcs] at h1; exact ⟨cs, rfl, he _ _ _ h1⟩
    let f : Nat → List Value := fun i => (w.cells? base (a.add (i * s)) s).getD []
    have hf : ∀ i, i < len → w.cells? base (a.add (i * s)) s = some (f i) := fun i hil => by
      obtain ⟨cs, h1, _⟩ := hc i hil
      simp [f, h1]
    have hfl : ∀ i, i < len → (f i).length = s := fun i hil => (World.cells?_some (hf i hil)).2.1
    obtain ⟨l, hl1, hl2⟩ := choose_list (rd := rd) len f fun i hil => by
      obtain ⟨cs, h1, o, ho⟩ := hc i hil
      rw [hf i hil] at h1; cases h1; exact ⟨o, ho⟩
    refine ⟨l, some a, len, cap, rfl, hlc, (List.range len).map f, ?_, ?_, by simp [hl1], ?_⟩
    · have hcss : ∀ c ∈ (List.range len).map f, c.length = s := by
        intro c hc'
        obtain ⟨i, hi', rfl⟩ := List.mem_map.1 hc'
        exact hfl i (List.mem_range.1 hi')
      refine ⟨by rw [flatten_len hcss]; simp, Nat.le_trans hlc hcm, fun hlen => ?_⟩
      have h00 : w.cell? a = (f 0)[0]? := by
        have := (World.cells?_some (hf 0 hlen)).2.2 0 hpos
        simpa [Addr.add] using this
      rw [List.getElem?_eq_getElem (by rw [hfl 0 hlen]; exact hpos)] at h00
      have hlt : a.block < w.heap.size := World.block_lt_of_cell? w a h00
      have hspot : a.spot = none := by
        unfold World.cell? at h00
        split at h00
        · split at h00
          · cases h00
          · rename_i hsp; simpa using hsp
        · cases h00
      obtain ⟨g, o, z⟩ := a
      simp only at hspot; subst hspot
      have hcell : ∀ i j, i < len → j < s → w.cell? ⟨g, o + (i * s + j), none⟩ = (f i)[j]? := fun i j hil hj => by
        have := (World.cells?_some (hf i hil)).2.2 j hj
        rwa [Addr.add_mid, Addr.add_mid, Nat.add_assoc] at this
      refine ⟨g, o, rfl, trivial, hlt, fun j v hj => ?_⟩
      have hjl : j < len * s := by
        have := (List.getElem?_eq_some_iff.1 hj).1
        rw [flatten_len hcss] at this; simpa using this
      have hdiv : j / s < len := by rw [Nat.div_lt_iff_lt_mul hpos]; exact hjl
      have hmod : j % s < s := Nat.mod_lt _ hpos
      have hj' : j = j / s * s + j % s := by rw [Nat.mul_comm]; exact (Nat.div_add_mod j s).symm
      have hseg : (((List.range len).map f).flatten.drop (j / s * s)).take s = f (j / s) := flatten_at hcss (by simp [hdiv])
      have hv : (f (j / s))[j % s]? = some v := by
        rw [← hseg, List.getElem?_take, if_pos hmod, List.getElem?_drop, ← hj']; exact hj
      rw [← hv, ← hcell _ _ hdiv hmod, ← hj']
    · intro c hc'
      obtain ⟨i, hi', rfl⟩ := List.mem_map.1 hc'
      exact hfl i (List.mem_range.1 hi')
    · intro i c x h1 h2
      rw [List.getElem?_map] at h1
      have hil : i < len := by rw [← hl1]; exact (List.getElem?_eq_some_iff.1 h2).1
      rw [List.getElem?_range hil] at h1
      simp at h1; subst h1
      exact hl2 i x h2
/-- A slice of bytes. -/
theorem opens_bytes {T e : TypeId} (ht : sliceT P T = some e) (hs : szT P e = some 1) (he : P.underlying e = some (.int .u8)) : Opens enc P w base sp held T (RdBytes w (fun _ => True)) := fun fuel cs x h => by
  obtain ⟨l, a, n, c, h1, h2, css, h3, h4, h5, h6⟩ := opens_slice ht hs (by decide) (opens_byte he) fuel cs x h
  refine ⟨l, a, n, c, h1, h2, ?_⟩
  have e1 : css.flatten = l.map B8 := by
    have : css = l.map fun b => [B8 b] := by
      apply List.ext_getElem?
      intro i
      rw [List.getElem?_map]
      by_cases hi : i < l.length
      · have a1 : css[i]? = some css[i] := List.getElem?_eq_getElem (by omega)
        have a2 : l[i]? = some l[i] := List.getElem?_eq_getElem hi
        rw [a1, a2, h6 i _ _ a1 a2]; rfl
      · rw [List.getElem?_eq_none (by omega), List.getElem?_eq_none (by omega)]; rfl
    rw [this]
    clear h3 h4 h5 h6 this
    induction l with
    | nil => rfl
    | cons b r ih => simp [ih]
  rw [e1] at h3; exact h3
/-- The field of a struct. -/
theorem opens_field {α : Type} {rd : List Value → α → Prop} {T : TypeId} {fs : Array Field} {fuel : Nat} {cs : List Value} {x : DataW H × List MemPlace} (ht : P.underlying T = some (.struct fs)) (h : DataW.trod enc P w base sp held fuel T cs = some x)
    {i o : Nat} {f : TypeId} (hf : (fs[i]?).map (fun f => (f.type, f.offset)) = some (f, o)) {s : Nat} (hs : szT P f = some s) (ho : Opens enc P w base sp held f rd) : ∃ a, rd ((cs.drop o).take s) a := by
  obtain ⟨xs, n, rfl, rfl, hl, hx, hi⟩ := DataW.trod_struct ht h
  cases hfi : fs[i]? with
  | none => simp [hfi] at hf
  | some fd =>
    simp only [hfi, Option.map_some, Option.some.injEq, Prod.mk.injEq] at hf
    obtain ⟨rfl, rfl⟩ := hf
    have h1 := hi i fd hfi
    have hlt : i < fs.size := (Array.getElem?_eq_some_iff.1 hfi).1
    rw [List.getElem?_eq_getElem (by omega), cellsOf_sz hs] at h1
    exact ho _ _ _ h1
theorem opens_len {T : TypeId} {fs : Array Field} {fuel s : Nat} {cs : List Value} {x : DataW H × List MemPlace} (ht : P.underlying T = some (.struct fs)) (h : DataW.trod enc P w base sp held fuel T cs = some x) (hs : szT P T = some s) : cs.length = s := by
  obtain ⟨xs, n, _, _, hl, _⟩ := DataW.trod_struct ht h
  rw [hl, cellsOf_sz hs]
def fieldT (P : Program) (T i : Nat) : Option (Nat × Nat) := match P.underlying T with
  | some (.struct fs) => (fs[i]?).map fun f => (f.type, f.offset)
  | _ => none
theorem fieldT_struct {T i f o : Nat} (h : fieldT P T i = some (f, o)) : ∃ fs, P.underlying T = some (.struct fs) ∧ (fs[i]?).map (fun f => (f.type, f.offset)) = some (f, o) := by
  unfold fieldT at h
  split at h
  · rename_i fs hu; exact ⟨fs, hu, h⟩
  · cases h
theorem opens_fieldT {α : Type} {rd : List Value → α → Prop} {T i f o s : Nat} {fuel : Nat} {cs : List Value} {x : DataW H × List MemPlace} (hf : fieldT P T i = some (f, o)) (hs : szT P f = some s) (ho : Opens enc P w base sp held f rd)
    (h : DataW.trod enc P w base sp held fuel T cs = some x) : ∃ a, rd ((cs.drop o).take s) a := by
  obtain ⟨fs, hu, hi⟩ := fieldT_struct hf
  exact opens_field hu h hi hs ho
theorem opens_lenT {T i f o s : Nat} {fuel : Nat} {cs : List Value} {x : DataW H × List MemPlace} (hf : fieldT P T i = some (f, o)) (hs : szT P T = some s) (h : DataW.trod enc P w base sp held fuel T cs = some x) : cs.length = s := by
  obtain ⟨fs, hu, hi⟩ := fieldT_struct hf
  exact opens_len hu h hs
theorem seg (cs : List Value) (o s : Nat) : cs.drop o = (cs.drop o).take s ++ cs.drop (o + s) := by
  rw [← List.drop_drop, List.take_append_drop]
theorem drop_all {cs : List Value} {n : Nat} (h : cs.length = n) : cs.drop n = [] := List.drop_eq_nil_of_le (by omega)
end
section
variable {H : Type} {enc : TypeId × Value → H} {P : Program} {w : World} {base : Nat} {sp : Nat → Bool} {held : Bool}
abbrev TT : Nat → Prop := fun _ => True
def Int64 (n : Int) : Prop := -9223372036854775808 ≤ n ∧ n ≤ 9223372036854775807
theorem opens_i64 {T : TypeId} (ht : P.underlying T = some (.int .i64)) : Opens enc P w base sp held T (fun cs n => cs = [.int .i64 n] ∧ Int64 n) := fun fuel cs x h => by
  obtain ⟨n, h1, _, h3⟩ := DataW.trod_int ht h
  refine ⟨n, h1, ?_⟩
  simp [Lit.wf, IntKind.min, IntKind.max, IntKind.signed, IntKind.bits] at h3
  unfold Int64; omega
theorem opens_bool {T : TypeId} (ht : P.underlying T = some .bool) : Opens enc P w base sp held T (fun cs b => cs = [.bool b]) := fun fuel cs x h => by
  obtain ⟨b, h1, _⟩ := DataW.trod_bool ht h
  exact ⟨b, h1⟩
theorem rd_rowL {α : Type} {V : α → Value} {A : Nat → Prop} {a : Option Addr} {n : Nat} {l : List α} (h : RdList (fun cs x => cs = [V x]) w A 1 a n l) : RdRow w A 1 a n (l.map V) := by
  obtain ⟨css, h3, h4, h5, h6⟩ := h
  have e1 : css.flatten = l.map V := by
    have : css = l.map fun b => [V b] := by
      apply List.ext_getElem?
      intro i
      rw [List.getElem?_map]
      by_cases hi : i < l.length
      · have a1 : css[i]? = some css[i] := List.getElem?_eq_getElem (by omega)
        have a2 : l[i]? = some l[i] := List.getElem?_eq_getElem hi
        rw [a1, a2, h6 i _ _ a1 a2]; rfl
      · rw [List.getElem?_eq_none (by omega), List.getElem?_eq_none (by omega)]; rfl
    rw [this]
    clear h3 h4 h5 h6 this
    induction l with
    | nil => rfl
    | cons b r ih => simp [ih]
  rw [e1] at h3; exact h3
/-- Cells of a slice whose elements are V of something. -/
def RdRowC {α : Type} (V : α → Value) (w : World) (A : Nat → Prop) (cs : List Value) (l : List α) : Prop := ∃ a n c, cs = [.slice a n c] ∧ n ≤ c ∧ RdRow w A 1 a n (l.map V)
theorem RdRowC.row {α : Type} {V : α → Value} {A : Nat → Prop} {a : Option Addr} {n c : Nat} {l : List α} (h : RdRowC V w A [.slice a n c] l) : RdRow w A 1 a n (l.map V) := by
  obtain ⟨a', n', c', e, _, hr⟩ := h
  injection e with e _
  injection e with e1 e2 e3
  subst e1; subst e2
  exact hr
theorem opens_row {α : Type} {V : α → Value} {T e : TypeId} (ht : sliceT P T = some e) (hs : szT P e = some 1) (he : Opens enc P w base sp held e (fun cs (x : α) => cs = [V x])) : Opens enc P w base sp held T (RdRowC V w TT) := fun fuel cs x h => by
  obtain ⟨l, a, n, c, h1, h2, h3⟩ := opens_slice ht hs (by decide) he fuel cs x h
  exact ⟨l, a, n, c, h1, h2, rd_rowL h3⟩
theorem o_rbytes : Opens enc Tryd.prog w base sp held 32 (RdRowC B8 w TT) := opens_row Ty.sl_32 Ty.sz_5 (opens_byte Ty.un_5)
theorem o_rints : Opens enc Tryd.prog w base sp held 74 (RdRowC (Value.int .i64) w TT) := opens_row Ty.sl_74 Ty.sz_3 (opens_int Ty.un_3)
theorem o_rbools : Opens enc Tryd.prog w base sp held 51 (RdRowC Value.bool w TT) := opens_row Ty.sl_51 Ty.sz_4 (opens_bool Tryd.underlying4)
end
end Go.Proofs.YtffkjjakceojfaaDoor

/- The shell, part G: what a row's list of variables gives. -/
namespace Go.Proofs.YtffkjjakceojfaaDoor
open Go
open Go.ChangeShapes Go.WideShapes Go.RowKit
set_option linter.unusedVariables false

theorem own : ownKnob Tryd.prog.godebug = none := by kernel_rfl
theorem laidOut : laidOutB Tryd.prog = true := by kernel_rfl
theorem star : "*" ++ "errors.errorString" = "*errors.errorString" := by decide
theorem err_row (u : TypeId) (h : Tryd.prog.typeName? 3 u = some "*errors.errorString") : u = 139 :=
  typeName_ptr_named (nm := "errors.errorString") (by rw [star]; kernel_rfl) (by kernel_rfl) (by decide) u (by rw [star]; exact h)
theorem laid_err {W : World} {n : String} {text : List UInt8} {r : List (String × DataW Unit)} {g : Nat} (h : laidMet Tryd.prog ((n, .iface "*errors.errorString" (.ptr (.agg [.lit (.string text)]))) :: r) W) (hg : Tryd.prog.globalNamed n = some g) (ht : (Tryd.prog.globals[g]?).map (·.type) = some 26) :
    ∃ (a : Addr) (s : ByteArray), W.cell? ⟨g, 0, none⟩ = some (.iface 139 (.pointer (some a))) ∧ W.cell? a = some (.string s) ∧ s.data.toList = text := by
  obtain ⟨ms, hi⟩ := run_ifcT (P := Tryd.prog) (T := 26) (by kernel_rfl)
  obtain ⟨a, s, h1, h2, h3, _⟩ := laid_sentinel h hg ht hi err_row Tryd.underlying139 Tryd.underlying163 rfl rfl Tryd.underlying9 (by kernel_rfl) (by kernel_rfl)
  exact ⟨a, s, by simpa using World.var?_cell hg h1 0, h2, h3⟩
theorem agg_of_len {v : Value} {n : Nat} (h : v.cells.toList.length = n) (hn : n ≠ 1) : v = .agg v.cells.toList.toArray := by
  cases v <;> first | (simp [Value.cells] at h; exact absurd h.symm hn) | simp [Value.cells]
theorem still_id {w : World} : Still w (fun _ => True) w (fun k => ¬ (fun _ : Nat => False) k) := fun k _ _ => ⟨rfl, id⟩
theorem no_res {w : World} : stars [] w (fun _ => False) := fun _ h => h
theorem below_of {W W' : World} {L : List Res} (h : St W (fun _ => False) L W') : Below W.heap.size W W' := by
  obtain ⟨F, _, hst⟩ := h
  exact ⟨hst.os, hst.tape, hst.output, hst.size, fun k hk => hst.block k hk (fun h => h)⟩
noncomputable def lowB : Nat := (World.holding Tryd.prog default ⟨#[], #[], []⟩).heap.size
end Go.Proofs.YtffkjjakceojfaaDoor

/- Plain words: a disk of layer 6: what was synced, what was written and isn't. -/
namespace Go.Proofs.YtffkjjakceojfaaDoor
open Go
set_option linter.unusedVariables false
set_option linter.unusedSimpArgs false

structure Sec where
  l : List UInt8
  h : l.length = 64
theorem Sec.ext' {a b : Sec} (h : a.l = b.l) : a = b := by cases a; cases b; cases h; rfl
def sec0 : Sec := ⟨List.replicate 64 0, by simp⟩
def secOf (b : UInt8) : Sec := ⟨b :: List.replicate 63 0, by simp⟩
def sc (s : Sec) : List Value := s.l.map B8
theorem sc_length (s : Sec) : (sc s).length = 64 := by rw [sc, List.length_map, s.h]
theorem sc_one (s : Sec) : ∀ v ∈ sc s, v.oneCell' = true := one_B8 _
instance {s : Sec} : Len (sc s) 64 := ⟨sc_length s⟩
instance {s : Sec} : One (sc s) := One.of (sc_one s)
def scV (s : Sec) : Value := .agg (sc s).toArray
/-- Sectors in a row. -/
def secs (n : Nat) (f : Nat → Sec) : List Value := ((List.range n).map fun i => sc (f i)).flatten
def updS (f : Nat → Sec) (i : Nat) (v : Sec) : Nat → Sec := fun j => if j = i then v else f j
theorem secs_all {n : Nat} {f : Nat → Sec} : ∀ c ∈ (List.range n).map fun i => sc (f i), c.length = 64 := fun c hc => by
  obtain ⟨i, _, rfl⟩ := List.mem_map.1 hc; exact sc_length _
theorem secs_len (n : Nat) (f : Nat → Sec) : (secs n f).length = n * 64 := by rw [secs, flatten_len secs_all]; simp
theorem secs_get {n i o : Nat} {f : Nat → Sec} (h : i < n) (ho : o = i * 64) : ((secs n f).drop o).take 64 = sc (f i) := by
  subst ho; exact flatten_at secs_all (by simp [h])
theorem secs_ext {n : Nat} {f g : Nat → Sec} (h : ∀ i, i < n → f i = g i) : secs n f = secs n g := by
  unfold secs; congr 1
  exact List.map_congr_left fun i hi => by rw [h i (List.mem_range.1 hi)]
theorem secs_one (n : Nat) (f : Nat → Sec) : ∀ v ∈ secs n f, v.oneCell' = true := fun v hv => by
  obtain ⟨c, hc, h⟩ := List.mem_flatten.1 hv
  obtain ⟨i, _, rfl⟩ := List.mem_map.1 hc
  exact sc_one _ v h
theorem flatten_set {size : Nat} : ∀ {css : List (List Value)} {i : Nat} {c : List Value}, (∀ c ∈ css, c.length = size) → c.length = size → i < css.length → updL css.flatten (i * size) c = (css.set i c).flatten
  | [], i, c, _, _, h => by simp at h
  | d :: l, 0, c, h, hc, _ => by
    have hd := h d (by simp)
    simp only [updL, Nat.zero_mul, List.take_zero, List.nil_append, Nat.zero_add, List.flatten_cons, List.set_cons_zero, hc]
    rw [List.drop_append, List.drop_eq_nil_of_le (by omega), hd, Nat.sub_self, List.drop_zero, List.nil_append]
  | d :: l, i + 1, c, h, hc, hi => by
    have hd := h d (by simp)
    have ih := flatten_set (css := l) (i := i) (fun c' hc' => h c' (by simp [hc'])) hc (by simpa using hi)
    have e : (i + 1) * size = size + i * size := by rw [Nat.add_mul, Nat.one_mul, Nat.add_comm]
    simp only [updL, List.flatten_cons, List.set_cons_succ, hc] at ih ⊢
    rw [← ih, e, List.take_append, List.take_of_length_le (by omega), hd, show size + i * size - size = i * size by omega, List.drop_append, List.drop_eq_nil_of_le (by omega), hd, show size + i * size + size - size = i * size + size by omega]
    simp
theorem secs_set {n i o : Nat} {f : Nat → Sec} {v : Sec} (h : i < n) (ho : o = i * 64) : updL (secs n f) o (sc v) = secs n (updS f i v) := by
  subst ho
  rw [secs, flatten_set secs_all (sc_length v) (by simpa using h), secs]
  congr 1
  apply List.ext_getElem?
  intro j
  rw [List.getElem?_set, List.getElem?_map, List.getElem?_map]
  by_cases hj : j < n
  · by_cases hij : i = j
    · subst hij; simp [hj, updS]
    · simp [hj, hij, updS, Ne.symm hij]
  · rw [List.getElem?_eq_none (l := List.range n) (by simp; omega)]
    by_cases hij : i = j
    · omega
    · simp [hij]
/-! ### What was written -/
def lookW (i : Int) : List (Int × Sec) → Option Sec
  | [] => none
  | p :: l => if i = p.1 then some p.2 else lookW i l
def putW (i : Int) (v : Sec) : List (Int × Sec) → List (Int × Sec)
  | [] => [(i, v)]
  | p :: l => if i = p.1 then (i, v) :: l else p :: putW i v l
def encW (ws : List (Int × Sec)) : List (Int × Value) := ws.map fun p => (p.1, scV p.2)
theorem encW_at (i : Int) : ∀ (ws : List (Int × Sec)) (k : Nat), (atK i (encW ws) k).map (·.2) = (lookW i ws).map scV
  | [], _ => rfl
  | p :: l, k => by
    simp only [encW, List.map_cons, atK, lookW]
    by_cases h : i = p.1
    · simp [h]
    · rw [if_neg h, if_neg h]; exact encW_at i l (k + 1)
theorem encW_get (i : Int) (ws : List (Int × Sec)) : getK i (encW ws) = (lookW i ws).map scV := encW_at i ws 0
theorem encW_put (i : Int) (v : Sec) : ∀ (ws : List (Int × Sec)), putK i (scV v) (encW ws) = encW (putW i v ws)
  | [] => rfl
  | p :: l => by
    simp only [encW, List.map_cons, putK, putW]
    by_cases h : i = p.1
    · simp [h]
    · rw [if_neg h, if_neg h, List.map_cons]
      have := encW_put i v l
      simp only [encW] at this
      rw [this]
theorem lookW_put (i k : Int) (v : Sec) : ∀ (ws : List (Int × Sec)), lookW i (putW k v ws) = if i = k then some v else lookW i ws
  | [] => by by_cases h : i = k <;> simp [putW, lookW, h]
  | p :: l => by
    by_cases h : k = p.1
    · simp only [putW, if_pos h, lookW]
      by_cases h' : i = k
      · simp [h']
      · rw [if_neg h', if_neg h', if_neg (by rw [← h]; exact h')]
    · simp only [putW, if_neg h, lookW]
      by_cases h' : i = p.1
      · rw [if_pos h', if_pos h', if_neg (by rw [h']; exact fun e => h e.symm)]
      · rw [if_neg h', if_neg h', lookW_put i k v l]
def keysW (ws : List (Int × Sec)) : List Int := ws.map (·.1)
theorem keys_put (k : Int) (v : Sec) : ∀ (ws : List (Int × Sec)), keysW (putW k v ws) = if k ∈ keysW ws then keysW ws else keysW ws ++ [k]
  | [] => by simp [putW, keysW]
  | p :: l => by
    by_cases h : k = p.1
    · simp [putW, h, keysW]
    · have ih := keys_put k v l
      have e1 : keysW (putW k v (p :: l)) = p.1 :: keysW (putW k v l) := by simp [putW, if_neg h, keysW]
      have e2 : keysW (p :: l) = p.1 :: keysW l := rfl
      rw [e1, e2, ih]
      by_cases hk : k ∈ keysW l
      · rw [if_pos hk, if_pos (List.mem_cons_of_mem _ hk)]
      · rw [if_neg hk, if_neg (by simp [h, hk])]; rfl
theorem nodup_put {k : Int} {v : Sec} {ws : List (Int × Sec)} (h : (keysW ws).Nodup) : (keysW (putW k v ws)).Nodup := by
  rw [keys_put]; split
  · exact h
  · rename_i hk
    refine List.nodup_append.2 ⟨h, by simp, fun a ha b hb e => ?_⟩
    simp only [List.mem_singleton] at hb
    exact hk (by rw [← hb, ← e]; exact ha)
theorem lookW_some {i : Int} : ∀ {ws : List (Int × Sec)}, i ∈ keysW ws → ∃ v, lookW i ws = some v ∧ (i, v) ∈ ws
  | p :: l, h => by
    by_cases hi : i = p.1
    · exact ⟨p.2, by simp [lookW, hi], by rw [hi]; simp⟩
    · simp only [keysW, List.map_cons, List.mem_cons, hi, false_or] at h
      obtain ⟨v, h1, h2⟩ := lookW_some (ws := l) h
      exact ⟨v, by simp [lookW, hi, h1], by simp [h2]⟩
  | [], h => by simp [keysW] at h
theorem lookW_none {i : Int} : ∀ {ws : List (Int × Sec)}, i ∉ keysW ws → lookW i ws = none
  | [], _ => rfl
  | p :: l, h => by
    simp only [keysW, List.map_cons, List.mem_cons, not_or] at h
    simp only [lookW, if_neg h.1]; exact lookW_none h.2
theorem lookW_mem {i : Int} {v : Sec} : ∀ {ws : List (Int × Sec)}, (keysW ws).Nodup → (i, v) ∈ ws → lookW i ws = some v
  | p :: l, hn, h => by
    have hn' := List.nodup_cons.1 hn
    rcases List.mem_cons.1 h with rfl | h
    · simp [lookW]
    · have : i ≠ p.1 := fun e => hn'.1 (by show p.1 ∈ l.map (·.1); rw [← e]; exact List.mem_map.2 ⟨_, h, rfl⟩)
      simp only [lookW, if_neg this]; exact lookW_mem hn'.2 h
/-- A disk. -/
structure DS where
  n : Nat
  ss : Nat → Sec
  ws : List (Int × Sec)
  off : Bool
  armed : Bool
  left : Int
def DS.at (d : DS) (i : Nat) : Sec := (lookW (i : Int) d.ws).getD (d.ss i)
def oper (d : DS) : DS := if d.armed = true ∧ d.off = false then { d with off := decide (d.left = 0), left := d.left - 1 } else d
structure DOk (d : DS) : Prop where
  n : d.n ≤ 4096
  nd : (keysW d.ws).Nodup
  ks : ∀ k ∈ keysW d.ws, 0 ≤ k ∧ k < d.n
  lf : d.armed = true → d.off = false → 0 ≤ d.left
  rg : -9223372036854775808 ≤ d.left ∧ d.left ≤ 9223372036854775807
theorem oper_ok {d : DS} (h : DOk d) : DOk (oper d) := by
  unfold oper; split
  · rename_i hc
    have hl := h.lf hc.1 hc.2
    refine ⟨h.n, h.nd, h.ks, fun _ h2 => ?_, ?_⟩
    · simp only [decide_eq_false_iff_not] at h2
      show 0 ≤ d.left - 1
      omega
    · have := h.rg
      show -9223372036854775808 ≤ d.left - 1 ∧ d.left - 1 ≤ 9223372036854775807
      omega
  · exact h
def DS.write (d : DS) (i : Int) (v : Sec) : DS := { d with ws := putW i v d.ws }
theorem write_ok {d : DS} {i : Int} {v : Sec} (h : DOk d) (h0 : 0 ≤ i) (h1 : i < d.n) : DOk (d.write i v) :=
  ⟨h.n, nodup_put h.nd, fun k hk => by
    simp only [DS.write, keys_put] at hk
    split at hk
    · exact h.ks k hk
    · rcases List.mem_append.1 hk with hk | hk
      · exact h.ks k hk
      · simp only [List.mem_singleton] at hk; subst hk; exact ⟨h0, h1⟩, h.lf, h.rg⟩
def DS.sync (d : DS) : DS := { d with ss := d.at, ws := [] }
theorem sync_ok {d : DS} (h : DOk d) : DOk d.sync := ⟨h.n, by simp [DS.sync, keysW], by simp [DS.sync, keysW], h.lf, h.rg⟩
/-- Keys in order; what a crash keeps. -/
def sortZ (l : List Int) : List Int := l.mergeSort (fun x y => decide (x ≤ y))
def keepF (ks : List Int) (keep : List Bool) (ws : List (Int × Sec)) (ss : Nat → Sec) : Nat → Nat → Sec
  | 0 => ss
  | j + 1 => if keep.getD j false = true then updS (keepF ks keep ws ss j) (ks.getD j 0).toNat ((lookW (ks.getD j 0) ws).getD sec0) else keepF ks keep ws ss j
def DS.crash (d : DS) (keep : List Bool) : DS := { d with ss := keepF (sortZ (keysW d.ws)) keep d.ws d.ss (sortZ (keysW d.ws)).length, ws := [], off := false, armed := false }
theorem crash_ok {d : DS} {keep : List Bool} (h : DOk d) : DOk (d.crash keep) := ⟨h.n, by simp [DS.crash, keysW], by simp [DS.crash, keysW], (fun e => by cases e), h.rg⟩
def DS.has (d : DS) (i : Int) : Bool := decide (0 ≤ i) && decide (i < d.n)
theorem has_iff {d : DS} {i : Int} : d.has i = true ↔ 0 ≤ i ∧ i < d.n := by simp [DS.has]
theorem oper_n (d : DS) : (oper d).n = d.n := by unfold oper; split <;> rfl
theorem oper_ss (d : DS) : (oper d).ss = d.ss := by unfold oper; split <;> rfl
theorem oper_ws (d : DS) : (oper d).ws = d.ws := by unfold oper; split <;> rfl
theorem oper_yes {d : DS} (h1 : d.armed = true) (h2 : d.off = false) : (oper d).off = decide (d.left = 0) ∧ (oper d).armed = d.armed ∧ (oper d).left = d.left - 1 := by
  unfold oper; rw [if_pos ⟨h1, h2⟩]; exact ⟨rfl, rfl, rfl⟩
theorem oper_no {d : DS} (h : d.armed = false ∨ d.off = true) : oper d = d := by
  unfold oper; rw [if_neg]; rintro ⟨h1, h2⟩; rcases h with h | h <;> simp_all
def DS.wr (d : DS) (i : Int) (v : Sec) : Nat × DS := if d.has i then (if (oper d).off then 6 else 0, if (oper d).off then oper d else (oper d).write i v) else (1, d)
theorem wr_out {d : DS} {i : Int} {v : Sec} (h : d.has i = false) : d.wr i v = (1, d) := by simp [DS.wr, h]
theorem wr_off {d : DS} {i : Int} {v : Sec} (h : d.has i = true) (ho : (oper d).off = true) : d.wr i v = (6, oper d) := by simp [DS.wr, h, ho]
theorem wr_on {d : DS} {i : Int} {v : Sec} (h : d.has i = true) (ho : (oper d).off = false) : d.wr i v = (0, (oper d).write i v) := by simp [DS.wr, h, ho]
theorem wr_ok {d : DS} {i : Int} {v : Sec} (h : DOk d) : DOk (d.wr i v).2 := by
  unfold DS.wr; split
  · rename_i hi
    have := has_iff.1 hi
    simp only; split
    · exact oper_ok h
    · exact write_ok (oper_ok h) this.1 (by rw [oper_n]; exact this.2)
  · exact h
def DS.rd (d : DS) (i : Int) : Nat × Sec := if d.has i then (if d.off then (6, sec0) else (0, d.at i.toNat)) else (1, sec0)
theorem rd_out {d : DS} {i : Int} (h : d.has i = false) : d.rd i = (1, sec0) := by simp [DS.rd, h]
theorem rd_off {d : DS} {i : Int} (h : d.has i = true) (ho : d.off = true) : d.rd i = (6, sec0) := by simp [DS.rd, h, ho]
theorem rd_some {d : DS} {i : Int} (h : d.has i = true) (ho : d.off = false) (hs : (lookW i d.ws).isSome = true) : d.rd i = (0, (lookW i d.ws).getD sec0) := by
  have h0 := (has_iff.1 h).1
  simp only [DS.rd, h, ho, if_true, Bool.false_eq_true, if_false, DS.at, Int.toNat_of_nonneg h0]
  cases he : lookW i d.ws with
  | none => rw [he] at hs; cases hs
  | some v => rfl
theorem rd_none {d : DS} {i : Int} (h : d.has i = true) (ho : d.off = false) (hs : (lookW i d.ws).isSome = false) : d.rd i = (0, d.ss i.toNat) := by
  have h0 := (has_iff.1 h).1
  simp only [DS.rd, h, ho, if_true, Bool.false_eq_true, if_false, DS.at, Int.toNat_of_nonneg h0]
  cases he : lookW i d.ws with
  | some v => rw [he] at hs; cases hs
  | none => rfl
theorem encW_keys {ws : List (Int × Sec)} : (encW ws).map (·.1) = keysW ws := by simp [encW, keysW, Function.comp_def]
theorem encW_range {d : DS} (h : DOk d) : ∀ p ∈ encW d.ws, 0 ≤ p.1 ∧ p.1 ≤ 4096 := fun p hp => by
  have : p.1 ∈ keysW d.ws := by rw [← encW_keys]; exact List.mem_map.2 ⟨p, hp, rfl⟩
  have h2 := h.ks _ this; have := h.n; omega
theorem nodup_len : ∀ {n : Nat} {l : List Int}, l.Nodup → (∀ k ∈ l, 0 ≤ k ∧ k < n) → l.length ≤ n
  | 0, l, _, h => by
    cases l with
    | nil => simp
    | cons k l => have := h k (by simp); omega
  | n + 1, l, hn, h => by
    have h1 := nodup_len (n := n) (l := l.erase (n : Int)) (hn.erase _) fun k hk => by
      have h2 := hn.mem_erase_iff.1 hk
      have h3 := h k h2.2
      have := h2.1; omega
    have h4 := List.length_erase (a := (n : Int)) (l := l)
    split at h4 <;> omega
theorem ws_len {d : DS} (h : DOk d) : d.ws.length ≤ d.n := by
  have := nodup_len h.nd h.ks
  rwa [keysW, List.length_map] at this
theorem encW_len {d : DS} (h : DOk d) : (encW d.ws).length ≤ 4096 := by
  have := ws_len h; have := h.n; rw [encW, List.length_map]; omega
theorem sortZ_perm (l : List Int) : (sortZ l).Perm l := List.mergeSort_perm _ _
theorem sortZ_len (d : DS) : (sortZ (keysW d.ws)).length = d.ws.length := by rw [(sortZ_perm _).length_eq, keysW, List.length_map]
theorem sortZ_key {d : DS} (h : DOk d) {j : Nat} (hj : j < (sortZ (keysW d.ws)).length) : 0 ≤ (sortZ (keysW d.ws)).getD j 0 ∧ (sortZ (keysW d.ws)).getD j 0 < d.n := by
  have e : (sortZ (keysW d.ws)).getD j 0 = (sortZ (keysW d.ws))[j] := by simp [List.getD, hj]
  rw [e]
  exact h.ks _ ((sortZ_perm _).mem_iff.1 (List.getElem_mem hj))
def DS.syncd (d : DS) : DS := if (oper d).off then oper d else (oper d).sync
theorem syncd_ok {d : DS} (h : DOk d) : DOk d.syncd := by
  unfold DS.syncd; split
  · exact oper_ok h
  · exact sync_ok (oper_ok h)
def SyncInv (d : DS) (lw : List (Int × Sec)) (f : Nat → Sec) : Prop := lw.Sublist d.ws ∧ ∀ i : Nat, f i = if (i : Int) ∈ keysW lw then d.ss i else d.at i
theorem SyncInv.start (d : DS) : SyncInv d d.ws d.ss := ⟨List.Sublist.refl _, fun i => by
  split
  · rfl
  · rename_i h; simp [DS.at, lookW_none h]⟩
theorem SyncInv.done {d : DS} {f : Nat → Sec} (h : SyncInv d [] f) (i : Nat) : f i = d.at i := by
  have := h.2 i; simpa [keysW] using this
theorem SyncInv.key {d : DS} {A B : List (Int × Sec)} {k : Int} {v : Sec} {f : Nat → Sec} (h : SyncInv d (A ++ (k, v) :: B) f) (hk : DOk d) : 0 ≤ k ∧ k < d.n :=
  hk.ks k (List.mem_map.2 ⟨(k, v), h.1.subset (by simp), rfl⟩)
theorem SyncInv.step {d : DS} {A B : List (Int × Sec)} {k : Int} {v : Sec} {f : Nat → Sec} (h : SyncInv d (A ++ (k, v) :: B) f) (hk : DOk d) : SyncInv d (A ++ B) (updS f k.toNat v) := by
  have hsub : (A ++ B).Sublist (A ++ (k, v) :: B) := List.Sublist.append (List.Sublist.refl _) (List.sublist_cons_self _ _)
  have hnd : (keysW (A ++ (k, v) :: B)).Nodup := hk.nd.sublist (h.1.map _)
  have h0 := (h.key hk).1
  have hnot : k ∉ keysW (A ++ B) := by
    simp only [keysW, List.map_append, List.map_cons] at hnd ⊢
    have h1 := List.nodup_append.1 hnd
    intro hm
    rcases List.mem_append.1 hm with hm | hm
    · exact h1.2.2 k hm k (by simp) rfl
    · exact (List.nodup_cons.1 h1.2.1).1 hm
  refine ⟨hsub.trans h.1, fun i => ?_⟩
  simp only [updS]
  by_cases hi : i = k.toNat
  · subst hi
    have e : (k.toNat : Int) = k := Int.toNat_of_nonneg h0
    rw [if_pos rfl, e, if_neg hnot, DS.at, e, lookW_mem (v := v) hk.nd (h.1.subset (by simp))]
    rfl
  · rw [if_neg hi, h.2 i]
    have : (i : Int) ∈ keysW (A ++ (k, v) :: B) ↔ (i : Int) ∈ keysW (A ++ B) := by
      have hne : (i : Int) ≠ k := by omega
      simp [keysW, hne]
    simp only [this]
theorem encKW_nil {lw : List (Int × Sec)} (h : encK (Value.int .i64) (encW lw) = []) : lw = [] := by simpa [encK, encW] using h
theorem encKW_split {lw : List (Int × Sec)} {A' B' : List (Value × Value)} {p : Value × Value} (h : encK (Value.int .i64) (encW lw) = A' ++ p :: B') :
    ∃ A k v B, lw = A ++ (k, v) :: B ∧ A' = encK (Value.int .i64) (encW A) ∧ p = (.int .i64 k, scV v) ∧ B' = encK (Value.int .i64) (encW B) := by
  simp only [encK, encW, List.map_map] at h
  obtain ⟨l1, l2, h1, h2, h3⟩ := List.map_eq_append_iff.1 h
  obtain ⟨q, l3, h4, h5, h6⟩ := List.map_eq_cons_iff.1 h3
  subst h1; subst h4
  exact ⟨l1, q.1, q.2, l3, rfl, by rw [← h2]; simp [encK, encW], by rw [← h5]; rfl, by rw [← h6]; simp [encK, encW]⟩
theorem keepF_yes {ks : List Int} {kb : List Bool} {ws : List (Int × Sec)} {ss : Nat → Sec} {j : Nat} (h : kb.getD j false = true) : keepF ks kb ws ss (j + 1) = updS (keepF ks kb ws ss j) (ks.getD j 0).toNat ((lookW (ks.getD j 0) ws).getD sec0) := by rw [keepF, if_pos h]
theorem keepF_no {ks : List Int} {kb : List Bool} {ws : List (Int × Sec)} {ss : Nat → Sec} {j : Nat} (h : kb.getD j false = false) : keepF ks kb ws ss (j + 1) = keepF ks kb ws ss j := by rw [keepF, if_neg (by rw [h]; decide)]
end Go.Proofs.YtffkjjakceojfaaDoor

/-
  DERIVED: THE SHELF's CONTRACTS AT THIS DUMP, IN PLAIN WORDS (tools/lay-plain.mjs out of 'YtffkjjakceojfaaDoorLayC.lean', which tools/lay-shelf.mjs wrote): THE SAME DECLARATIONS UNDER THE SAME NAMES: 'import', 'namespace', 'open', 'def', 'theorem' AND NOTHING ELSE: no command of the shelf's: FOR A HAND-IN. Each laying: the table of numbers ('.._ren') and one theorem, a field a fact of the dump's own or the kernel's comparison; each contract: ONE APPLICATION.
-/
namespace Go.Proofs
open Go.Shelf
def Tryd.keysA_ren : Go.Shelf.Ren := ⟨fun | 7 => 46 | 10 => 53 | n => n, fun | 23 => 58 | 26 => 3 | 3 => 37 | 28 => 91 | 0 => 0 | 27 => 90 | 33 => 65 | 4 => 4 | n => n, fun | n => n⟩
theorem Tryd.keysA : Go.Proofs.SlLaysZI.n7 Tryd.prog Tryd.keysA_ren := {
  mixed := by kernel_rfl
  f7 := ⟨Tryd.f46.name, by decide, Tryd.func46.trans (congrArg some (by kernel_rfl))⟩
  f10 := ⟨Tryd.f53.name, by decide, Tryd.func53.trans (congrArg some (by kernel_rfl))⟩
  t0 := Tryd.underlying0
  a0 := Tryd.isAgg0
  z0 := Tryd.sizeOf0
  v0 := Tryd.zeroValue0
  t4 := Tryd.underlying4
  a4 := Tryd.isAgg4
  z4 := Tryd.sizeOf4
  v4 := Tryd.zeroValue4
  t23 := Tryd.underlying58
  a23 := Tryd.isAgg58
  z23 := Tryd.sizeOf58
  v23 := Tryd.zeroValue58
  t26 := Tryd.underlying3
  a26 := Tryd.isAgg3
  z26 := Tryd.sizeOf3
  v26 := Tryd.zeroValue3
  t27 := Tryd.underlying90
  a27 := Tryd.isAgg90
  z27 := Tryd.sizeOf90
  v27 := Tryd.zeroValue90
  t28 := Tryd.underlying91
  a28 := Tryd.isAgg91
  z28 := Tryd.sizeOf91
  v28 := Tryd.zeroValue91
  t33 := Tryd.underlying65
  a33 := Tryd.isAgg65
  z33 := Tryd.sizeOf65
  v33 := Tryd.zeroValue65 }
def Tryd.sortedA_ren : Go.Shelf.Ren := ⟨fun | 6 => 45 | 8 => 51 | 9 => 52 | 11 => 56 | 13 => 58 | 12 => 57 | 23 => 68 | 24 => 69 | 14 => 59 | 15 => 60 | 16 => 61 | 17 => 62 | 18 => 63 | 19 => 64 | 20 => 65 | 21 => 66 | 22 => 67 | 25 => 70 | 26 => 71 | 27 => 72 | 28 => 73 | 29 => 74 | 30 => 75 | 31 => 76 | n => n, fun | 26 => 3 | 28 => 91 | 24 => 74 | 0 => 0 | 3 => 3 | 37 => 39 | 48 => 93 | 50 => 97 | 4 => 4 | 40 => 121 | 39 => 120 | 45 => 126 | 5 => 5 | 9 => 9 | 51 => 130 | 55 => 134 | 57 => 136 | 58 => 137 | 33 => 65 | n => n, fun | n => n⟩
theorem Tryd.sortedA : Go.Proofs.SlLaysZI.n6 Tryd.prog Tryd.sortedA_ren := {
  mixed := by kernel_rfl
  f6 := ⟨Tryd.f45.name, by decide, Tryd.func45.trans (congrArg some (by kernel_rfl))⟩
  f8 := ⟨Tryd.f51.name, by decide, Tryd.func51.trans (congrArg some (by kernel_rfl))⟩
  f11 := ⟨Tryd.f56.name, by decide, Tryd.func56.trans (congrArg some (by kernel_rfl))⟩
  t0 := Tryd.underlying0
  a0 := Tryd.isAgg0
  z0 := Tryd.sizeOf0
  v0 := Tryd.zeroValue0
  t24 := Tryd.underlying74
  a24 := Tryd.isAgg74
  z24 := Tryd.sizeOf74
  v24 := Tryd.zeroValue74
  t26 := Tryd.underlying3
  a26 := Tryd.isAgg3
  z26 := Tryd.sizeOf3
  v26 := Tryd.zeroValue3
  t28 := Tryd.underlying91
  a28 := Tryd.isAgg91
  z28 := Tryd.sizeOf91
  v28 := Tryd.zeroValue91
  i26 := by kernel_rfl }
def Tryd.sortA_ren : Go.Shelf.Ren := ⟨fun | 5 => 52 | 8 => 58 | 7 => 57 | 19 => 68 | 20 => 69 | 10 => 59 | 11 => 60 | 12 => 61 | 13 => 62 | 14 => 63 | 15 => 64 | 16 => 65 | 17 => 66 | 18 => 67 | 30 => 70 | 31 => 71 | 32 => 72 | 33 => 73 | 34 => 74 | 35 => 75 | 40 => 76 | n => n, fun | 23 => 74 | 25 => 3 | 3 => 3 | 32 => 39 | 22 => 74 | 0 => 0 | 44 => 93 | 46 => 97 | 4 => 4 | 36 => 121 | 35 => 120 | 41 => 126 | 5 => 5 | 9 => 9 | 53 => 130 | 57 => 134 | 63 => 136 | 64 => 137 | n => n, fun | n => n⟩
theorem Tryd.sortA : Go.Proofs.SlLaysM.n5 Tryd.prog Tryd.sortA_ren := {
  mixed := by kernel_rfl
  f5 := ⟨Tryd.f52.name, by decide, Tryd.func52.trans (congrArg some (by kernel_rfl))⟩
  f7 := ⟨Tryd.f57.name, by decide, Tryd.func57.trans (congrArg some (by kernel_rfl))⟩
  f8 := Tryd.func58.trans (congrArg some (by kernel_rfl))
  f10 := ⟨Tryd.f59.name, by decide, Tryd.func59.trans (congrArg some (by kernel_rfl))⟩
  f11 := ⟨Tryd.f60.name, by decide, Tryd.func60.trans (congrArg some (by kernel_rfl))⟩
  f12 := ⟨Tryd.f61.name, by decide, Tryd.func61.trans (congrArg some (by kernel_rfl))⟩
  f13 := ⟨Tryd.f62.name, by decide, Tryd.func62.trans (congrArg some (by kernel_rfl))⟩
  f14 := ⟨Tryd.f63.name, by decide, Tryd.func63.trans (congrArg some (by kernel_rfl))⟩
  f15 := ⟨Tryd.f64.name, by decide, Tryd.func64.trans (congrArg some (by kernel_rfl))⟩
  f16 := ⟨Tryd.f65.name, by decide, Tryd.func65.trans (congrArg some (by kernel_rfl))⟩
  f17 := ⟨Tryd.f66.name, by decide, Tryd.func66.trans (congrArg some (by kernel_rfl))⟩
  f18 := ⟨Tryd.f67.name, by decide, Tryd.func67.trans (congrArg some (by kernel_rfl))⟩
  f19 := Tryd.func68.trans (congrArg some (by kernel_rfl))
  f20 := Tryd.func69.trans (congrArg some (by kernel_rfl))
  f30 := ⟨Tryd.f70.name, by decide, Tryd.func70.trans (congrArg some (by kernel_rfl))⟩
  f31 := Tryd.func71.trans (congrArg some (by kernel_rfl))
  f32 := Tryd.func72.trans (congrArg some (by kernel_rfl))
  f33 := ⟨Tryd.f73.name, by decide, Tryd.func73.trans (congrArg some (by kernel_rfl))⟩
  f34 := ⟨Tryd.f74.name, by decide, Tryd.func74.trans (congrArg some (by kernel_rfl))⟩
  f35 := ⟨Tryd.f75.name, by decide, Tryd.func75.trans (congrArg some (by kernel_rfl))⟩
  f40 := ⟨Tryd.f76.name, by decide, Tryd.func76.trans (congrArg some (by kernel_rfl))⟩
  t0 := Tryd.underlying0
  a0 := Tryd.isAgg0
  z0 := Tryd.sizeOf0
  v0 := Tryd.zeroValue0
  t3 := Tryd.underlying3
  a3 := Tryd.isAgg3
  z3 := Tryd.sizeOf3
  v3 := Tryd.zeroValue3
  t4 := Tryd.underlying4
  a4 := Tryd.isAgg4
  z4 := Tryd.sizeOf4
  v4 := Tryd.zeroValue4
  t5 := Tryd.underlying5
  a5 := Tryd.isAgg5
  z5 := Tryd.sizeOf5
  v5 := Tryd.zeroValue5
  t9 := Tryd.underlying9
  a9 := Tryd.isAgg9
  z9 := Tryd.sizeOf9
  v9 := Tryd.zeroValue9
  t22 := Tryd.underlying74
  a22 := Tryd.isAgg74
  z22 := Tryd.sizeOf74
  v22 := Tryd.zeroValue74
  t23 := Tryd.underlying74
  a23 := Tryd.isAgg74
  z23 := Tryd.sizeOf74
  v23 := Tryd.zeroValue74
  t25 := Tryd.underlying3
  a25 := Tryd.isAgg3
  z25 := Tryd.sizeOf3
  v25 := Tryd.zeroValue3
  t32 := Tryd.underlying39
  a32 := Tryd.isAgg39
  z32 := Tryd.sizeOf39
  v32 := Tryd.zeroValue39
  t35 := Tryd.underlying120
  a35 := Tryd.isAgg120
  z35 := Tryd.sizeOf120
  v35 := Tryd.zeroValue120
  t36 := Tryd.underlying121
  a36 := Tryd.isAgg121
  z36 := Tryd.sizeOf121
  v36 := Tryd.zeroValue121
  t41 := Tryd.underlying126
  a41 := Tryd.isAgg126
  z41 := Tryd.sizeOf126
  v41 := Tryd.zeroValue126
  t44 := Tryd.underlying93
  a44 := Tryd.isAgg93
  z44 := Tryd.sizeOf93
  v44 := Tryd.zeroValue93
  t46 := Tryd.underlying97
  a46 := Tryd.isAgg97
  z46 := Tryd.sizeOf97
  v46 := Tryd.zeroValue97
  t53 := Tryd.underlying130
  a53 := Tryd.isAgg130
  z53 := Tryd.sizeOf130
  v53 := Tryd.zeroValue130
  t57 := Tryd.underlying134
  a57 := Tryd.isAgg134
  z57 := Tryd.sizeOf134
  v57 := Tryd.zeroValue134
  t63 := Tryd.underlying136
  a63 := Tryd.isAgg136
  z63 := Tryd.sizeOf136
  v63 := Tryd.zeroValue136
  t64 := Tryd.underlying137
  a64 := Tryd.isAgg137
  z64 := Tryd.sizeOf137
  v64 := Tryd.zeroValue137 }
end Go.Proofs

/- A map's keys, sorted: the library's contracts (laid at this program), in the engine's words. -/
namespace Go.Proofs.YtffkjjakceojfaaDoor
open Go Go.RowKit Go.Maps Go.Sort Go.Shelf
set_option linter.unusedVariables false
set_option linter.unusedSimpArgs false

/-- slices.Sort's two contracts, at the fence that asks nothing. -/
theorem sortsA (m : Nat) : AnyZI.SortsIn Tryd.prog Tryd.sortedA_ren Fence.wide m :=
  ⟨fun blk off cap ss W hH hblk hsz => callsIn_wide.2 (AnyM.slices_Sort_int Tryd.sortA blk off cap ss W hH hblk hsz),
   fun p cap W => callsIn_wide.2 (AnyM.slices_Sort_int_none Tryd.sortA p cap W)⟩
theorem St.belowR {w0 w w' : World} {F0 : Nat → Prop} {L : List Res} (hs : St w0 F0 L w) (hb : Below w.heap.size w w') : St w0 F0 L w' := by
  obtain ⟨F, hF, hst⟩ := hs
  have hlt := stars_lt hF
  exact ⟨F, stars_loc hF fun k hk => hb.block k (hlt k hk), hst.os ▸ hb.os, hst.tape ▸ hb.tape, hst.output ▸ hb.output, Nat.le_trans hst.size hb.size, fun k hk hn => (hb.block k (Nat.lt_of_lt_of_le hk hst.size)).trans (hst.block k hk hn), hst.own⟩
theorem keys_ok {w : World} {F : Nat → Prop} {m : Nat} (h : stars [] w F) : Calls Tryd.prog 46 #[.map (some m)] w
    (Post w F (fun b : Nat => .func (.func 53) #[] #[.pointer (some ⟨b, 0, none⟩)]) (fun b => [blk b 58 [.map (some m)]])) :=
  Calls.mono (callsIn_wide.1 (AnyZI.keys_in Tryd.keysA Fence.wide 5 trivial rfl (some m) w)) fun e w' ⟨he, hw⟩ => ⟨w.heap.size, he, by rw [hw]; exact (St.init h).new (T := 58) (cs := [.map (some m)])⟩
theorem keyOf_int {x : Int} (h : 0 ≤ x ∧ x ≤ 4096) : keyOf Tryd.prog 3 (.int .i64 x) = some (.int .i64 x) := by
  have hw : (Lit.int .i64 x).wf = true := by simp [Lit.wf, IntKind.min, IntKind.max, IntKind.signed, IntKind.bits]; omega
  simp [keyOf, Ty.un_3, mapKey, hw]
section
variable {w : World} {F : Nat → Prop} {m b : Nat} {l : List (Int × Value)}
abbrev RZ : Value → Option (DataW Nat × List MemPlace) := fun _ => some (.nil, [])
theorem es_keys {es : Array MapEntry} (hk : kvs es = encK (Value.int .i64) l) : es.toList.map (·.key) = l.map fun p => Value.int .i64 p.1 := by
  have := congrArg (List.map Prod.fst) hk
  simpa [kvs, encK, Function.comp_def] using this
theorem sortedK_ok (h : stars [mapR m (encK (Value.int .i64) l), blk b 58 [.map (some m)]] w F) (hn : (l.map (·.1)).Nodup) (hr : ∀ p ∈ l, 0 ≤ p.1 ∧ p.1 ≤ 4096) (hl : l.length ≤ 4096) :
    Calls Tryd.prog 45 #[.func (.func 53) #[] #[.pointer (some ⟨b, 0, none⟩)]] w
      (Post w F (fun r : Option Addr × Nat => .slice r.1 l.length r.2) (fun r => [rowR 3 1 r.1 l.length r.2 ((sortZ (l.map (·.1))).map (Value.int .i64)), mapR m (encK (Value.int .i64) l), blk b 58 [.map (some m)]])) := by
  have hst := St.init h
  obtain ⟨es, clock, hh, hk, hb, hbn⟩ := hst.mapAt Pick.here
  have hcell := hst.cellOf (Pick.there .here) 0
  have hblt : b < w.heap.size := by
    obtain ⟨F1, F2, _, h2, _⟩ := h
    exact stars_lt h2 b (by obtain ⟨G1, G2, g1, _, hG, _⟩ := h2; exact (hG b).2 (.inl ((g1.1 b).2 rfl)))
  have hkeys := es_keys hk
  have hes : es.size = l.length := by rw [← kvs_length, hk, encK_length]
  have hkey : ∀ x ∈ es.toList, ∃ i : Int, x.key = .int .i64 i ∧ 0 ≤ i ∧ i ≤ 4096 := fun x hx => by
    have : x.key ∈ es.toList.map (·.key) := List.mem_map.2 ⟨x, hx, rfl⟩
    rw [hkeys] at this
    obtain ⟨p, hp, e⟩ := List.mem_map.1 this
    exact ⟨p.1, e.symm, hr p hp⟩
  have hrg : ∀ x ∈ es.toList, ∀ i : Int, x.key = .int .i64 i → WideElems.rd Tryd.prog 3 RZ x = some (.int .i64 i, .nil) := fun x hx i e => by
    obtain ⟨i', e', hi⟩ := hkey x hx
    rw [e'] at e; cases e
    unfold WideElems.rd
    rw [e', keyOf_int hi]; rfl
  let D0 : DataW Nat := .map ((es.toList.map (WideElems.rg Tryd.prog 3 RZ)).foldr DataW.insert [])
  have hperm : (intKeys D0).Perm (l.map (·.1)) := by
    have h1 : (intKeys D0).Perm ((es.toList.map (WideElems.rg Tryd.prog 3 RZ)).map fun p => Go.intOf p.1) := (WideShapes.sorted_perm _).map _
    have h2 : ((es.toList.map (WideElems.rg Tryd.prog 3 RZ)).map fun p => Go.intOf p.1) = l.map (·.1) := by
      have h3 : (es.toList.map (WideElems.rg Tryd.prog 3 RZ)).map (fun p => Go.intOf p.1) = (es.toList.map (·.key)).map fun v => match v with | .int _ i => i | _ => 0 := by
        rw [List.map_map, List.map_map]
        refine List.map_congr_left fun x hx => ?_
        obtain ⟨i, e, _⟩ := hkey x hx
        simp only [Function.comp, WideElems.rg, hrg x hx i e, e, Option.getD_some, Go.intOf]
      rw [h3, hkeys, List.map_map]; rfl
    rw [h2] at h1; exact h1
  have hsize : Maps.size D0 = l.length := by
    have := hperm.length_eq
    have h2 : (intKeys D0).length = Maps.size D0 := by simp [D0, intKeys, Maps.size]
    rw [← h2, this, List.length_map]
  have hown : w.ownsMap Tryd.prog 3 RZ m l.length D0 := ⟨es, clock, hh, ⟨by rw [hes]; simp only [maxLen]; omega, ⟨hb, hbn, by rw [hkeys]; unfold List.Nodup at hn ⊢; rw [List.pairwise_map] at hn ⊢; exact hn.imp fun h e => h (by injection e)⟩, fun x hx => by obtain ⟨i, e, _⟩ := hkey x hx; exact ⟨_, hrg x hx i e⟩⟩, by omega, rfl⟩
  have hseq := AnyZI.keys_gives (ρ := Tryd.keysA_ren) { Tryd.keysA with } Fence.wide 2 trivial rfl (by omega) b m l.length D0 w hblt hcell hown
  have cS := callsIn_wide.1 (AnyZI.sorted_in Tryd.sortedA Fence.wide 5 trivial trivial trivial trivial rfl (by omega) (sortsA _) (enters_of Tryd.func52 (by kernel_rfl) rfl) 53 #[.pointer (some ⟨b, 0, none⟩)] trivial (enters_of Tryd.func53 (by kernel_rfl) rfl) (fun ss => ss.Perm (intKeys D0)) (Maps.size D0) (by rw [hsize]; simp only [maxLen]; omega) (by rw [hsize]; omega) w hseq)
  refine Calls.mono cS fun e w' ⟨v, ss, he, hS, hrow, hnil, hbel⟩ => ?_
  have hss : ss.Perm (l.map (·.1)) := hS.trans hperm
  have hsort : ss.mergeSort (fun x y => decide (x ≤ y)) = sortZ (l.map (·.1)) := mergeSort_of_perm_i hss
  have hlen : ss.length = l.length := by rw [hss.length_eq, List.length_map]
  rw [hsort, hlen] at hrow
  have hst2 := stars_loc h fun k hk => hbel.block k (stars_lt h k hk)
  have hstp : Stp w F w' F := ⟨hbel.os, hbel.tape, hbel.output, hbel.size, fun k hk _ => hbel.block k hk, fun k hk => .inl hk⟩
  rcases hrow.2 with ⟨hv, h0⟩ | ⟨g, cap, cur, hv, hg, hgh, hle, hmax, hcs, htake⟩
  · have hxs : (sortZ (l.map (·.1))).map (Value.int .i64) = [] := List.eq_nil_of_length_eq_zero (by rw [hrow.1, h0])
    refine ⟨(none, 0), by rw [he, hv, h0], ?_⟩
    simp only [hxs, h0]
    exact ⟨F, stars_row_nil hst2, hstp⟩
  · refine ⟨(some ⟨g, 0, none⟩, cap), by rw [he, hv], fun k => k = g ∨ F k, ⟨fun k => k = g, F, ⟨hrow.1, hle, hmax, .inr ⟨g, 0, cur, (0, 0), rfl, fun k => Iff.rfl, hgh, fun i _ h => absurd h.2 (Nat.not_lt_zero _), by simp only [Nat.zero_add, Nat.mul_one]; omega, by simpa using htake⟩⟩, hst2, fun k => Iff.rfl, ?_⟩, ?_⟩
    · rintro k rfl hk
      exact absurd (stars_lt h k hk) (by omega)
    · refine ⟨hbel.os, hbel.tape, hbel.output, hbel.size, fun k hk _ => hbel.block k hk, ?_⟩
      rintro k (rfl | hk)
      · exact .inr hg
      · exact .inl hk
end
end Go.Proofs.YtffkjjakceojfaaDoor

/- The engine, part O: make of a slice of rows; a map's iterator in one rule; sectors. -/
namespace Go.Proofs.YtffkjjakceojfaaDoor
open Go
set_option linter.unusedVariables false
set_option linter.unusedSimpArgs false
theorem madeCells_rep (v : Value) (s n : Nat) (hs : 0 < s) : (madeCells (List.replicate s v).toArray n).toList = List.replicate n v := by
  apply List.ext_getElem?
  intro i
  simp only [madeCells, Array.toList_map, Array.toList_range, List.getElem?_map, List.getElem?_replicate]
  by_cases h : i < n
  · have h2 : i % (List.replicate s v).toArray.size < (List.replicate s v).toArray.size := Nat.mod_lt _ (by simpa using hs)
    rw [List.getElem?_range h, Option.map_some, if_pos h]
    rw [getElem!_pos (List.replicate s v).toArray _ h2]
    simp
  · rw [if_neg h, List.getElem?_eq_none (l := List.range n) (by simp; omega)]; rfl
theorem madeCells_secs (m : Nat) : (madeCells (List.replicate 64 (Value.int .u8 0)).toArray (m * 64)).toList = secs m fun _ => sec0 := by
  rw [madeCells_rep _ _ _ (by decide), secs]
  have e : sc sec0 = List.replicate 64 (Value.int .u8 0) := by simp [sc, sec0, B8]
  rw [e]
  generalize Value.int .u8 0 = v
  induction m with
  | zero => simp
  | succ m ih =>
    rw [List.range_succ, List.map_append, List.flatten_append, ← ih, Nat.add_mul, Nat.one_mul, ← List.replicate_append_replicate]
    simp only [List.map_cons, List.map_nil, List.flatten_cons, List.flatten_nil, List.append_nil]
def updB (f : Nat → Bool) (i : Nat) (v : Bool) : Nat → Bool := fun j => if j = i then v else f j
section
variable {P : Program} {w0 : World} {F0 : Nat → Prop} {L : List Res} {Q : Exit → Act → World → Prop} {n : Nat} {env : Env} {ops : Array Oper} {rest : List Oper} {ty : TypeId} {pos : String} {af : Array Edge} {gd : Option (Nat × Bool)} {d : Option Tmp}
theorem gl_mkN {t : Tmp} {T e bytes m s : Nat} {x y : Operand} {z : Value} {k k' : IntKind} (hw : Wt ops n env ⟨some t, .makeSlice T x y, ty, pos, af, gd⟩ true) (ht : ElemT P T e s bytes) (hz : (P.info? e).map (·.zero) = some (some z))
    (hx : ev n env x = .int k (m : Int)) (hy : ev n env y = .int k' (m : Int)) (hb : bytes * m ≤ 16777216) (hm : m * s ≤ 16777216) (hm' : m ≤ 16777216)
    (K : ∀ b, Gl P w0 F0 (blk b e (madeCells z.cells (m * s)).toList :: L) ops Q rest n ((t, .slice (some ⟨b, 0, none⟩) m m) :: env)) : Gl P w0 F0 L ops Q (⟨some t, .makeSlice T x y, ty, pos, af, gd⟩ :: rest) n env := by
  refine gl_effx (α := Nat) (L' := fun b => blk b e (madeCells z.cells (m * s)).toList :: L) (v := fun b => .slice (some ⟨b, 0, none⟩) m m) hw (fun w hst => ?_) K
  obtain ⟨i, z', hi, hz', hs, hby, _⟩ := ht.info
  have hzz : z' = z := by rw [hi] at hz; simp only [Option.map_some, Option.some.injEq] at hz; rw [hz'] at hz; exact Option.some.inj hz
  subst hzz
  refine ⟨w.heap.size, { w with heap := w.heap.push (.cells (madeCells z'.cells (m * s)).toList.toArray e) }, ?_, hst.new⟩
  have hbb : (i.bytes : Int) * (m : Int) ≤ 281474976710656 := by
    rw [hby, ← Int.natCast_mul]; omega
  have hr := run_makeSlice (P := P) (w := w) T e i z' ht.sl hi hz' k k' (m : Int) (m : Int) (by omega) (Int.le_refl _) (by simp [hs]; omega) hbb (by omega)
  simp only [execOp, hx, hy, Sem.run_bind, hr, Result.andThen_ok, Sem.run_pure]
  simp only [Int.toNat_natCast, hs]
  first | rfl | simp [World.alloc]
theorem St.pick {w : World} {r : Res} {L' : List Res} (hw : St w0 F0 L w) (h : Pick L r L') : St w0 F0 (r :: L') w := hw.mapL0 fun F hF => h.stars hF
theorem gl_nextO {t : Tmp} {x : Operand} {b g : Nat} {l left : List (Value × Value)} {last : Option (Value × Value)} {L' : List Res} (hw : Wt ops n env ⟨some t, .next x false, ty, pos, af, gd⟩ true) (hx : ev n env x = .pointer (some ⟨b, 0, none⟩)) (hp : Pick L (itR b g l left last) L')
    (k : ∀ o : Option (List (Value × Value) × (Value × Value) × List (Value × Value)), (match o with | none => left = [] | some q => left = q.1 ++ q.2.1 :: q.2.2) →
      Gl P w0 F0 (itR b g l (match o with | none => left | some q => q.1 ++ q.2.2) (match o with | none => last | some q => some q.2.1) :: L') ops Q rest n ((t, match o with | none => .tuple #[.bool false] | some q => .tuple #[.bool true, q.2.1.1, q.2.1.2]) :: env)) :
    Gl P w0 F0 L ops Q (⟨some t, .next x false, ty, pos, af, gd⟩ :: rest) n env :=
  gl_next hw hx hp (fun h w hw => k none h w (hw.pick hp)) fun A p B h => k (some (A, p, B)) h
theorem gl_itMap {b g : Nat} {l left : List (Value × Value)} {last : Option (Value × Value)} {L' : List Res} (hp : Pick L (itR b g l left last) L') (k : Gl P w0 F0 (mapR g l :: L') ops Q rest n env) : Gl P w0 F0 L ops Q rest n env := fun w hw =>
  k w (hw.pick hp).itMap
theorem r_ldS {x : Operand} {T g m o : Nat} {f : Nat → Sec} {L' : List Res} {T' : Nat} [RA P T] [SZ P T 64] (i : Nat) (hi : i < m) (hx : ev n env x = .pointer (some ⟨g, o, none⟩) := by exact rfl) (ho : o = i * 64 := by omega) (hp : Pick L (blk g T' (secs m f)) L' := by repeat (first | exact Pick.here | apply Pick.there)) :
    Runs P w0 F0 L n env ⟨d, .load T x, ty, pos, af, gd⟩ (scV (f i)) := r_ldN hx RA.h SZ.h hp (secs_get hi ho) (sc_length _)
theorem gl_stS {x y : Operand} {T g m o : Nat} {f : Nat → Sec} {v : Sec} {L' : List Res} {T' : Nat} [SZ P T 64] (i : Nat) (hi : i < m) (k : Gl P w0 F0 (blk g T' (secs m (updS f i v)) :: L') ops Q rest n env) (hx : ev n env x = .pointer (some ⟨g, o, none⟩) := by exact rfl) (hy : ev n env y = scV v := by exact rfl) (ho : o = i * 64 := by omega)
    (hp : Pick L (blk g T' (secs m f)) L' := by repeat (first | exact Pick.here | apply Pick.there)) (hw : Wt ops n env ⟨none, .store T x y, ty, pos, af, gd⟩ true := by first | exact wt0 rfl | exact wtgT rfl rfl rfl rfl) :
    Gl P w0 F0 L ops Q (⟨none, .store T x y, ty, pos, af, gd⟩ :: rest) n env :=
  gl_storeN hw hx hy SZ.h (sc_length v) hp (by rw [secs_len]; omega) (sc_one v) (secs_set hi ho) k
theorem r_min {x y : Operand} {T1 T2 : TypeId} {k : IntKind} {i j : Int} (hx : ev n env x = .int k i := by exact rfl) (hy : ev n env y = .int k j := by exact rfl) :
    Runs P w0 F0 L n env ⟨d, .call ⟨.builtin .min, #[x, y], #[T1, T2]⟩, ty, pos, af, gd⟩ (.int k (if j < i then j else i)) := fun w _ => by
  simp only [execOp, resolve, invoke, builtin]
  simp [hx, hy, Builtin.min_, Builtin.min2]
theorem r_neq_bool {x y : Operand} {T T' : TypeId} {a b : Bool} (hx : ev n env x = .bool a := by exact rfl) (hy : ev n env y = .bool b := by exact rfl) (ht : P.underlying T = some .bool) :
    Runs P w0 F0 L n env ⟨d, .binOp .neq T x y T', ty, pos, af, gd⟩ (.bool (!(a == b))) := fun w _ => by
  have h := run_equalIn_bool' (P := P) w 9999 T a b ht
  simp only [execOp, hx, hy]
  simp [eqGuard, binOp, Op.equal, Op.maxDepth, h]
theorem r_eqpn {x : Operand} {T T' e : TypeId} {a : Option Addr} (hx : ev n env x = .pointer a := by exact rfl) (ht : P.underlying T = some (.pointer e)) :
    Runs P w0 F0 L n env ⟨d, .binOp .eql T x (.const (.pointer none)) T', ty, pos, af, gd⟩ (.bool a.isNone) := fun w _ => by
  have h : ∀ d : Nat, (Op.equalIn (d + 1) T (.pointer a) (.pointer none)).run P w = .ok a.isNone w := fun d => by
    cases a <;> simp [Op.equalIn, run_underlying ht]
  have h9 := h 9999
  have hc : ev n env (.const (.pointer none)) = .pointer none := rfl
  simp only [execOp, hx, hc]
  simp [eqGuard, binOp, Op.equal, Op.maxDepth, h9]
theorem RdRow.cellV {w : World} {A : Nat → Prop} {g o m : Nat} {α : Type} {V : α → Value} {l : List α} (h : RdRow w A 1 (some ⟨g, o, none⟩) m (l.map V)) {i : Nat} (hi : i < m) (z : α) : w.cell? ⟨g, o + i * 1, none⟩ = some (V (l.getD i z)) ∧ A g := by
  have hl : m = l.length := by have := h.1; simp at this; omega
  obtain ⟨g', o', ha, hA, _, hr⟩ := h.elem hi
  injection ha with ha
  injection ha with h1 h2
  subst h1; subst h2
  refine ⟨hr 0 _ ?_, hA⟩
  simp [List.getD, show i < l.length by omega]
instance : DecidableEq Sec := fun a b => decidable_of_iff (a.l = b.l) ⟨Sec.ext', fun h => h ▸ rfl⟩
theorem run_equal_sec {T e : TypeId} {w : World} {a b : Sec} (ht : arrT P T = some (64, e)) (he : P.underlying e = some (.int .u8)) (hs : szT P e = some 1) : (Op.equalIn 10000 T (scV a) (scV b)).run P w = .ok (decide (a = b)) w := by
  cases hi : P.info? e with
  | none => simp [szT, hi] at hs
  | some i =>
    have hz : i.size = 1 := by simpa [szT, hi] using hs
    have hc : P.cellsOf e = 1 := by simp [Program.cellsOf, hi, hz]
    have hd : decide (a.l = b.l) = decide (a = b) := by
      by_cases h : a = b
      · simp [h]
      · simp [h]; exact fun e => h (Sec.ext' e)
    rw [show scV a = .agg (sc a).toArray from rfl, show scV b = .agg (sc b).toArray from rfl, run_equalIn_array w 9999 _ _ (run_arrT ht) hi, hc]
    rw [show sc a = a.l.map B8 from rfl, show sc b = b.l.map B8 from rfl, run_eqItems8 (d := 9998) he a.l b.l w _ (fun i hi => by have := List.mem_range.1 hi; rw [a.h, b.h]; omega), all_range_eq a.h b.h, hd]
theorem r_eql_sec {x y : Operand} {T T' e : TypeId} {a b : Sec} (ht : arrT P T = some (64, e)) (he : P.underlying e = some (.int .u8)) (hs : szT P e = some 1) (hg : P.eqGuardType P.depth T = false) (hx : ev n env x = scV a := by exact rfl) (hy : ev n env y = scV b := by exact rfl) :
    Runs P w0 F0 L n env ⟨d, .binOp .eql T x y T', ty, pos, af, gd⟩ (.bool (decide (a = b))) := fun w _ => by
  have h := run_equal_sec (P := P) (w := w) (a := a) (b := b) ht he hs
  simp only [scV] at hx hy h
  simp only [execOp, hx, hy, Sem.run_bind, run_eqGuard_agg w _ _ _ _ _ _ hg, Result.andThen_ok, run_eql_struct, h, Sem.run_pure]
theorem r_neq_sec {x y : Operand} {T T' e : TypeId} {a b : Sec} (ht : arrT P T = some (64, e)) (he : P.underlying e = some (.int .u8)) (hs : szT P e = some 1) (hg : P.eqGuardType P.depth T = false) (hx : ev n env x = scV a := by exact rfl) (hy : ev n env y = scV b := by exact rfl) :
    Runs P w0 F0 L n env ⟨d, .binOp .neq T x y T', ty, pos, af, gd⟩ (.bool (!decide (a = b))) := fun w _ => by
  have h := run_equal_sec (P := P) (w := w) (a := a) (b := b) ht he hs
  simp only [scV] at hx hy h
  simp only [execOp, hx, hy, Sem.run_bind, run_eqGuard_agg w _ _ _ _ _ _ hg, Result.andThen_ok, run_neq_struct, h, Sem.run_pure]
/-- Bools in a row. -/
theorem r_ldB {x : Operand} {T g m o : Nat} {f : Nat → Bool} {L' : List Res} {T' : Nat} [RO P T] (i : Nat) (hi : i < m) (hx : ev n env x = .pointer (some ⟨g, o, none⟩) := by exact rfl) (ho : o = i := by omega) (hp : Pick L (blk g T' (fnc Value.bool m f)) L' := by repeat (first | exact Pick.here | apply Pick.there)) :
    Runs P w0 F0 L n env ⟨d, .load T x, ty, pos, af, gd⟩ (.bool (f i)) := r_ld1 hx RO.h hp (by subst ho; exact fnc_get hi)
theorem gl_stB {x y : Operand} {T g m o : Nat} {f f' : Nat → Bool} {v : Bool} {L' : List Res} {T' : Nat} [SZ P T 1] (i : Nat) (hi : i < m) (hf : f' = updB f i v) (k : Gl P w0 F0 (blk g T' (fnc Value.bool m f') :: L') ops Q rest n env) (hx : ev n env x = .pointer (some ⟨g, o, none⟩) := by exact rfl) (hy : ev n env y = .bool v := by exact rfl) (ho : o = i := by omega)
    (hp : Pick L (blk g T' (fnc Value.bool m f)) L' := by repeat (first | exact Pick.here | apply Pick.there)) (hw : Wt ops n env ⟨none, .store T x y, ty, pos, af, gd⟩ true := by first | exact wt0 rfl | exact wtgT rfl rfl rfl rfl) :
    Gl P w0 F0 L ops Q (⟨none, .store T x y, ty, pos, af, gd⟩ :: rest) n env := by
  subst ho
  refine gl_store1 hw hx hy rfl SZ.h hp (by rw [fnc_length]; omega) ?_ k
  have e : v = f' o := by rw [hf, updB, if_pos rfl]
  rw [e]
  exact fnc_upd hi fun j _ hj => by rw [hf, updB, if_neg hj]
theorem fnc_rep {α : Type} (V : α → Value) (v : α) (m : Nat) : List.replicate m (V v) = fnc V m fun _ => v := by
  apply List.ext_getElem?
  intro i
  by_cases h : i < m
  · rw [fnc_get h]; simp [h]
  · rw [List.getElem?_eq_none (by simp; omega), List.getElem?_eq_none (by rw [fnc_length]; omega)]
def Sec.b (s : Sec) : UInt8 := s.l.getD 0 0
theorem sc_zero (s : Sec) : (sc s)[0]? = some (B8 s.b) := by
  obtain ⟨l, h⟩ := s
  cases l with
  | nil => simp at h
  | cons y l => rfl
end
section three
variable {P : Program} {w0 : World} {F0 : Nat → Prop} {K L : List Res} {Q : Exit → Act → World → Prop} {n : Nat} {env : Env} {ops : Array Oper} {listed : Array Bool} {fuel z : Nat}
/-- One of three comes. -/
theorem yo3s (i j l : Nat) {oi oj ol : Oper} (hi : ops[i]? = some oi) (hj : ops[j]? = some oj) (hl : ops[l]? = some ol)
    (ki : Gl P w0 F0 L ops (Exit.then (NextT P w0 F0 K ops Q z fuel (listed.setIfInBounds i true)) Q) [oi] n env) (kj : Gl P w0 F0 L ops (Exit.then (NextT P w0 F0 K ops Q z fuel (listed.setIfInBounds j true)) Q) [oj] n env)
    (kl : Gl P w0 F0 L ops (Exit.then (NextT P w0 F0 K ops Q z fuel (listed.setIfInBounds l true)) Q) [ol] n env)
    (hr : Region.ready .any ops listed = [i, j, l] := by kernel_rfl) : Gt P w0 F0 K L ops Q z (fuel + 1) listed n env := fun w hst =>
  ⟨fun h => (by rw [hr] at h; cases h), by rw [hr]; simp, fun x hx _ => by
    rw [hr] at hx
    rcases List.mem_cons.1 hx with rfl | hx
    · exact wpOp_of_list hi (ki w hst)
    · rcases List.mem_cons.1 hx with rfl | hx
      · exact wpOp_of_list hj (kj w hst)
      · obtain rfl : x = l := by simpa using hx
        exact wpOp_of_list hl (kl w hst)⟩
end three
end Go.Proofs.YtffkjjakceojfaaDoor

/- Walks, by program (wg.py) out of a spec. -/
namespace Go.Proofs.YtffkjjakceojfaaDoor
open Go
set_option linter.unusedVariables false
set_option linter.unusedSimpArgs false


instance : KeyT Tryd.prog 3 (Value.int .i64) := keyT_int Ty.un_3
/-- A disk that lies in block g. -/
def DiskR (g : Nat) (d : DS) : Res := exR fun p : Nat × Nat => allR [blk g 60 [.slice (some ⟨p.1, 0, none⟩) d.n d.n, .map (some p.2), .bool d.off, .bool d.armed, .int .i64 d.left], blk p.1 37 (secs d.n d.ss), mapR p.2 (encK (Value.int .i64) (encW d.ws))]
section
variable {w0 w : World} {F F0 : Nat → Prop} {g : Nat} {d : DS} {L : List Res} {Q : Exit → Act → World → Prop} {n : Nat} {env : Env} {ops : Array Oper} {rest : List Oper}
theorem dk_open (h : stars (DiskR g d :: L) w F) : ∃ b m, stars (blk g 60 [.slice (some ⟨b, 0, none⟩) d.n d.n, .map (some m), .bool d.off, .bool d.armed, .int .i64 d.left] :: blk b 37 (secs d.n d.ss) :: mapR m (encK (Value.int .i64) (encW d.ws)) :: L) w F := by
  obtain ⟨⟨a, c⟩, h⟩ := stars_ex h
  exact ⟨a, c, stars_all h⟩
theorem St.dk {b m n : Nat} {off armed : Bool} {left : Int} {cs : List Value} {l : List (Value × Value)} (h : St w0 F0 (blk g 60 [.slice (some ⟨b, 0, none⟩) n n, .map (some m), .bool off, .bool armed, .int .i64 left] :: blk b 37 cs :: mapR m l :: L) w)
    (h1 : n = d.n) (h2 : off = d.off) (h3 : armed = d.armed) (h4 : left = d.left) (h5 : cs = secs d.n d.ss) (h6 : l = encK (Value.int .i64) (encW d.ws)) : St w0 F0 (DiskR g d :: L) w := by
  subst h1; subst h2; subst h3; subst h4; subst h5; subst h6
  obtain ⟨F, hF, hst⟩ := h
  exact ⟨F, stars_ex_mk (b, m) (stars_all_mk hF), hst⟩
theorem gc_dk {c : Code} {L' : List Res} (hp : Pick L (DiskR g d) L') (k : ∀ b m, Gc Tryd.prog w0 F0 (blk g 60 [.slice (some ⟨b, 0, none⟩) d.n d.n, .map (some m), .bool d.off, .bool d.armed, .int .i64 d.left] :: blk b 37 (secs d.n d.ss) :: mapR m (encK (Value.int .i64) (encW d.ws)) :: L') c Q n env) : Gc Tryd.prog w0 F0 L c Q n env := fun w hw => by
  obtain ⟨F, hF, hst⟩ := hw.pick hp
  obtain ⟨b, m, h⟩ := dk_open hF
  exact k b m w ⟨F, h, hst⟩
theorem gl_dk {L' : List Res} (hp : Pick L (DiskR g d) L') (k : ∀ b m, Gl Tryd.prog w0 F0 (blk g 60 [.slice (some ⟨b, 0, none⟩) d.n d.n, .map (some m), .bool d.off, .bool d.armed, .int .i64 d.left] :: blk b 37 (secs d.n d.ss) :: mapR m (encK (Value.int .i64) (encW d.ws)) :: L') ops Q rest n env) : Gl Tryd.prog w0 F0 L ops Q rest n env := fun w hw => by
  obtain ⟨F, hF, hst⟩ := hw.pick hp
  obtain ⟨b, m, h⟩ := dk_open hF
  exact k b m w ⟨F, h, hst⟩
variable {dd : Option Tmp} {ty : TypeId} {pos : String} {af : Array Edge} {gd : Option (Nat × Bool)}
theorem r_lookW {x y : Operand} {m : Nat} {ws : List (Int × Sec)} {L' : List Res} {i : Int} (hx : ev n env x = .map (some m)) (hy : ev n env y = .int .i64 i) (hp : Pick L (mapR m (encK (Value.int .i64) (encW ws))) L') :
    Runs Tryd.prog w0 F0 L n env ⟨dd, .lookup 58 x y true, ty, pos, af, gd⟩ (.tuple #[scV ((lookW i ws).getD sec0), .bool (lookW i ws).isSome]) :=
  r_val (r_look (K := Value.int .i64) (z := scV sec0) (key := i) hx hy Ty.un_58 (by kernel_rfl) hp) (by rw [encW_get]; cases lookW i ws <;> rfl)
theorem r_lookW1 {x y : Operand} {m : Nat} {ws : List (Int × Sec)} {L' : List Res} {i : Int} (hx : ev n env x = .map (some m)) (hy : ev n env y = .int .i64 i) (hp : Pick L (mapR m (encK (Value.int .i64) (encW ws))) L') :
    Runs Tryd.prog w0 F0 L n env ⟨dd, .lookup 58 x y false, ty, pos, af, gd⟩ (scV ((lookW i ws).getD sec0)) :=
  r_val (r_look (K := Value.int .i64) (z := scV sec0) (key := i) hx hy Ty.un_58 (by kernel_rfl) hp) (by rw [encW_get]; cases lookW i ws <;> rfl)
end

attribute [local irreducible] Gl Gc Gx Gs Runs Wt

set_option maxHeartbeats 400000 in
theorem new_ok {w : World} {F : Nat → Prop} {n : Nat} {ea : Nat → Addr} (h : stars [] w F) (h1 : 1 ≤ n) (h2 : n ≤ 4096) :
    Calls Tryd.prog 10 #[.int .i64 (n : Int)] w (Post w F (fun g : Nat => .tuple #[.pointer (some ⟨g, 0, none⟩), eV 139 ea 0]) (fun g => [DiskR g ⟨n, fun _ => sec0, [], false, false, 0⟩])) := by
  refine g_enter (env := [(0, .int .i64 (n : Int))]) Tryd.func10 rfl h Tryd.ntmps10 rfl rfl ?_
  refine gsr ?_
  refine gp zas ?_
  refine gp zas ?_
  refine gnt ?_
  refine gc_seq ?_
  refine gsr ?_
  refine gp zmv ?_
  refine gp (r_bool (c := false) zlt (decide_eq_false (by omega))) ?_
  refine gp zmv ?_
  refine gq zmv ?_
  refine gq (r_bool (c := false) zgt (decide_eq_false (by omega))) ?_
  refine gp zpk ?_
  refine gnt ?_
  refine gc_condF rfl rfl ?_
  refine gc_skip ?_
  refine gx_then ?_
  refine gsr ?_
  refine gp zmv ?_
  refine gl_mkN (m := n) (z := .agg (List.replicate 64 (Value.int .u8 0)).toArray) (wt0 rfl) ELT.h (by kernel_rfl) rfl rfl (by omega) (by omega) (by omega) (fun b12 => ?_)
  refine gl_eqc (cs' := secs n fun _ => sec0) (by repeat (first | exact Pick.here | apply Pick.there)) (madeCells_secs n) ?_
  refine gl_mkMap (wt0 rfl) (fun m13 => ?_)
  refine gp zbu ?_
  refine zbN fun b15 => ?_
  refine gp zas ?_
  refine gp zas ?_
  refine gnt ?_
  refine gc_ret ?_
  refine gx_ret2 rfl (by conv => lhs; whnf) (by conv => lhs; whnf) ?_
  exact fun w' hw => ⟨b15, by rw [eV_zero], St.dk (n := n) (b := b12) (m := m13) (hw.sel (by repeat (first | exact Sel.nil | (apply Sel.cons; · (repeat (first | exact Pick.here | apply Pick.there)))))) rfl rfl rfl rfl rfl rfl⟩

set_option maxHeartbeats 400000 in
theorem new_bad {w : World} {F : Nat → Prop} {n : Int} (h : stars [] w F) {ea : Nat → Addr} {es : List Nat} [Has es 1] [Has es 6] (hE : GErr es w (fun k => ¬ F k) 139 ea) (hn : n < 1 ∨ 4096 < n) :
    Calls Tryd.prog 10 #[.int .i64 n] w (Post w F (fun _ : Unit => .tuple #[.pointer none, eV 139 ea 1]) (fun _ => [])) := by
  refine g_enter (env := [(0, .int .i64 n)]) Tryd.func10 rfl h Tryd.ntmps10 rfl rfl ?_
  refine gsr ?_
  refine gp zas ?_
  refine gp zas ?_
  refine gnt ?_
  refine gc_seq ?_
  refine gc_seq ?_
  by_cases hn1 : n < 1
  · refine gc_region ?_
    refine gp zmv ?_
    refine gp (r_bool (c := true) zlt (decide_eq_true hn1)) ?_
    refine gp zmv ?_
    refine gn ?_
    refine gn ?_
    refine gp zpk ?_
    refine gnt ?_
    refine gc_condT rfl rfl ?_
    refine gc_seq ?_
    refine gc_regionS (by kernel_rfl) (by kernel_rfl) ?_
    refine sp (r_ld1o rfl Ty.row_26 (hE.c 1 Has.h) (hE.n 1 Has.h)) ?_
    refine sp zas ?_
    refine sp zas ?_
    refine gs_nil ?_
    refine gx_then ?_
    refine gc_ret ?_
    refine gx_then_ret ?_
    refine gx_ret2 rfl (by conv => lhs; whnf) (by conv => lhs; whnf) ?_
    exact ze ()
  · refine gc_region ?_
    refine gp zmv ?_
    refine gp (r_bool (c := false) zlt (decide_eq_false hn1)) ?_
    refine gp zmv ?_
    refine gq zmv ?_
    refine gq (r_bool (c := true) zgt (decide_eq_true (by omega))) ?_
    refine gp zpk ?_
    refine gnt ?_
    refine gc_condT rfl rfl ?_
    refine gc_seq ?_
    refine gc_regionS (by kernel_rfl) (by kernel_rfl) ?_
    refine sp (r_ld1o rfl Ty.row_26 (hE.c 1 Has.h) (hE.n 1 Has.h)) ?_
    refine sp zas ?_
    refine sp zas ?_
    refine gs_nil ?_
    refine gx_then ?_
    refine gc_ret ?_
    refine gx_then_ret ?_
    refine gx_ret2 rfl (by conv => lhs; whnf) (by conv => lhs; whnf) ?_
    exact ze ()

set_option maxHeartbeats 400000 in
theorem has_ok {w : World} {F : Nat → Prop} {g : Nat} {d : DS} (h : stars [DiskR g d] w F) {i : Int} :
    Calls Tryd.prog 29 #[.pointer (some ⟨g, 0, none⟩), .int .i64 i] w (Post w F (fun _ : Unit => .bool (d.has i)) (fun _ => [DiskR g d])) := by
  obtain ⟨b, m, h⟩ := dk_open h
  refine g_enter (env := [(0, .pointer (some ⟨g, 0, none⟩)), (1, .int .i64 i)]) Tryd.func29 rfl h Tryd.ntmps29 rfl rfl ?_
  refine gsr ?_
  refine gp zas ?_
  refine gnt ?_
  refine gc_seq ?_
  by_cases hi : 0 ≤ i
  · refine gc_region ?_
    refine gp zmv ?_
    refine gp (r_bool (c := true) zge (decide_eq_true hi)) ?_
    refine gp zmv ?_
    refine gq zmv ?_
    refine gq zmv ?_
    refine gq znc ?_
    refine gq zfa ?_
    refine gq zl ?_
    refine gq zln ?_
    refine gq zlt ?_
    refine gp zpk ?_
    refine gp zas ?_
    refine gnt ?_
    refine gc_ret ?_
    refine gx_ret1 rfl (by conv => lhs; whnf) ?_
    exact fun w' hw => ⟨(), by rw [DS.has, decide_eq_true hi, Bool.true_and], St.dk (hw.sel (by repeat (first | exact Sel.nil | (apply Sel.cons; · (repeat (first | exact Pick.here | apply Pick.there)))))) rfl rfl rfl rfl rfl rfl⟩
  · refine gc_region ?_
    refine gp zmv ?_
    refine gp (r_bool (c := false) zge (decide_eq_false hi)) ?_
    refine gp zmv ?_
    refine gn ?_
    refine gn ?_
    refine gn ?_
    refine gn ?_
    refine gn ?_
    refine gn ?_
    refine gn ?_
    refine gp zpk ?_
    refine gp zas ?_
    refine gnt ?_
    refine gc_ret ?_
    refine gx_ret1 rfl (by conv => lhs; whnf) ?_
    exact fun w' hw => ⟨(), by rw [DS.has, decide_eq_false hi, Bool.false_and], St.dk (hw.sel (by repeat (first | exact Sel.nil | (apply Sel.cons; · (repeat (first | exact Pick.here | apply Pick.there)))))) rfl rfl rfl rfl rfl rfl⟩

set_option maxHeartbeats 400000 in
theorem operate_ok {w : World} {F : Nat → Prop} {g : Nat} {d : DS} (h : stars [DiskR g d] w F) (hk : DOk d) {ea : Nat → Addr} {es : List Nat} [Has es 1] [Has es 6] (hE : GErr es w (fun k => ¬ F k) 139 ea) :
    Calls Tryd.prog 30 #[.pointer (some ⟨g, 0, none⟩)] w (Post w F (fun _ : Unit => eV 139 ea (if (oper d).off then 6 else 0)) (fun _ => [DiskR g (oper d)])) := by
  obtain ⟨b, m, h⟩ := dk_open h
  refine g_enter (env := [(0, .pointer (some ⟨g, 0, none⟩))]) Tryd.func30 rfl h Tryd.ntmps30 rfl rfl ?_
  refine gsr ?_
  refine gp zas ?_
  refine gnt ?_
  refine gc_join (α := Unit) (fun z => [blk g 60 [.slice (some ⟨b, 0, none⟩) d.n d.n, .map (some m), .bool (oper d).off, .bool (oper d).armed, .int .i64 (oper d).left], blk b 37 (secs d.n d.ss), mapR m (encK (Value.int .i64) (encW d.ws))]) (fun z => []) [3, 4, 5, 6, 7, 8, 9, 10, 11, 12, 13, 14, 15, 16, 17, 18, 19, 20, 21, 22, 23, 24, 25, 26, 27, 28] ?_ ?_
  · refine gc_seq ?_
    by_cases hA : d.armed = true
    · refine gc_region ?_
      refine gp zmv ?_
      refine gp znc ?_
      refine gp zfa ?_
      refine gp (r_bool (c := true) zl hA) ?_
      refine gp zmv ?_
      refine gq zmv ?_
      refine gq znc ?_
      refine gq zfa ?_
      refine gq zl ?_
      refine gq znt ?_
      refine gp zpk ?_
      refine gnt ?_
      refine gif rfl (fun hc13 => ?_) (fun hc13 => ?_)
      · try simp only at hc13
        have ho : d.off = false := by simpa using hc13
        have hl := hk.lf hA ho
        have hrg := hk.rg
        refine gsr ?_
        refine gp zmv ?_
        refine gp zmv ?_
        refine gp znc ?_
        refine gp zfa ?_
        refine gp zl ?_
        refine gp zei ?_
        refine gp znc ?_
        refine gp zfa ?_
        refine zs1 ?_
        refine gnt ?_
        refine gc_region ?_
        refine gp zmv ?_
        refine gp znc ?_
        refine gp zfa ?_
        refine gp zl ?_
        refine gp zsb ?_
        refine gp znc ?_
        refine gp zfa ?_
        refine zs1 ?_
        refine gl_nil ?_
        refine zjn (()) ?_
        · rw [(oper_yes hA ho).1, (oper_yes hA ho).2.1, (oper_yes hA ho).2.2]
          exact zsel
      · try simp only at hc13
        have ho : d.off = true := by simpa using hc13
        refine gc_skip ?_
        refine zjn (()) ?_
        · rw [oper_no (.inr ho)]
          exact zsel
    · refine gc_region ?_
      refine gp zmv ?_
      refine gp znc ?_
      refine gp zfa ?_
      refine gp (r_bool (c := false) zl (by simpa using hA)) ?_
      refine gp zmv ?_
      refine gn ?_
      refine gn ?_
      refine gn ?_
      refine gn ?_
      refine gn ?_
      refine gp zpk ?_
      refine gnt ?_
      refine gc_condF rfl rfl ?_
      refine gc_skip ?_
      refine zjn (()) ?_
      · rw [oper_no (.inl (by simpa using hA))]
        exact zsel
  · intro z u
    refine gc_seq ?_
    refine gsr ?_
    refine gp zmv ?_
    refine gp znc ?_
    refine gp zfa ?_
    refine gp zl ?_
    refine gnt ?_
    refine gif rfl (fun hc32 => ?_) (fun hc32 => ?_)
    · refine gsr ?_
      refine gp (r_ld1o rfl Ty.row_26 (hE.c 6 Has.h) (hE.n 6 Has.h)) ?_
      refine gp zas ?_
      refine gnt ?_
      refine gc_ret ?_
      refine gx_then_ret ?_
      refine gx_ret1 rfl (by conv => lhs; whnf) ?_
      exact fun w' hw => ⟨(), by rw [if_pos hc32], St.dk (n := d.n) (hw.sel (by repeat (first | exact Sel.nil | (apply Sel.cons; · (repeat (first | exact Pick.here | apply Pick.there)))))) (oper_n d).symm rfl rfl rfl (by rw [oper_n, oper_ss]) (by rw [oper_ws])⟩
    · refine gc_skip ?_
      refine gx_then ?_
      refine gsr ?_
      refine gp zas ?_
      refine gnt ?_
      refine gc_ret ?_
      refine gx_ret1 rfl (by conv => lhs; whnf) ?_
      exact fun w' hw => ⟨(), by rw [if_neg (by simpa using hc32), eV_zero], St.dk (n := d.n) (hw.sel (by repeat (first | exact Sel.nil | (apply Sel.cons; · (repeat (first | exact Pick.here | apply Pick.there)))))) (oper_n d).symm rfl rfl rfl (by rw [oper_n, oper_ss]) (by rw [oper_ws])⟩

set_option maxHeartbeats 400000 in
theorem write_ok' {w : World} {F : Nat → Prop} {g : Nat} {d : DS} (h : stars [DiskR g d] w F) (hk : DOk d) {ea : Nat → Addr} {es : List Nat} [Has es 1] [Has es 6] (hE : GErr es w (fun k => ¬ F k) 139 ea) {i : Int} {v : Sec} :
    Calls Tryd.prog 15 #[.pointer (some ⟨g, 0, none⟩), .int .i64 i, scV v] w (Post w F (fun _ : Unit => eV 139 ea (d.wr i v).1) (fun _ => [DiskR g (d.wr i v).2])) := by
  refine g_enter (env := [(0, .pointer (some ⟨g, 0, none⟩)), (1, .int .i64 i), (2, scV v)]) Tryd.func15 rfl h Tryd.ntmps15 rfl rfl ?_
  refine gsr ?_
  refine zbN fun b5 => ?_
  refine gp zas ?_
  refine gnt ?_
  refine gc_seq ?_
  refine gsr ?_
  refine gp zmv ?_
  refine gp zmv ?_
  refine zc (fun _ => ?_) (c := fun w1 F1 F2 h1 h2 hd hst => has_ok (i := i) h1)
  refine gp znt ?_
  refine gnt ?_
  refine gif rfl (fun hc11 => ?_) (fun hc11 => ?_)
  · try simp only at hc11
    have hi : d.has i = false := hc11
    have e := wr_out (v := v) hi
    refine gsr ?_
    refine gp (r_ld1o rfl Ty.row_26 (hE.c 1 Has.h) (hE.n 1 Has.h)) ?_
    refine gp zas ?_
    refine gnt ?_
    refine gc_ret ?_
    refine gx_then_ret ?_
    refine gx_ret1 rfl (by conv => lhs; whnf) ?_
    exact fun w' hw => ⟨(), by rw [e], by rw [e]; exact hw.sel (by repeat (first | exact Sel.nil | (apply Sel.cons; · (repeat (first | exact Pick.here | apply Pick.there)))))⟩
  · try simp only at hc11
    have hi : d.has i = true := hc11
    refine gc_skip ?_
    refine gx_then ?_
    refine gc_seq ?_
    refine gsr ?_
    refine gp zmv ?_
    refine zc (fun _ => ?_) (c := fun w1 F1 F2 h1 h2 hd hst => operate_ok h1 hk (hE.mv hst.still))
    refine gp zas ?_
    refine gnt ?_
    refine gsr ?_
    refine gp zmv ?_
    refine gp (r_bool (c := (oper d).off) (r_nenil rfl (by kernel_rfl)) (by cases (oper d).off <;> rfl)) ?_
    refine gnt ?_
    refine gif rfl (fun hc16 => ?_) (fun hc16 => ?_)
    · try simp only at hc16
      have e := wr_off (v := v) hi hc16
      refine gsr ?_
      refine gp zmv ?_
      refine gp zas ?_
      refine gnt ?_
      refine gc_ret ?_
      refine gx_then_ret ?_
      refine gx_ret1 rfl (by conv => lhs; whnf) ?_
      exact fun w' hw => ⟨(), by rw [e, if_pos hc16], by rw [e]; exact hw.sel (by repeat (first | exact Sel.nil | (apply Sel.cons; · (repeat (first | exact Pick.here | apply Pick.there)))))⟩
    · try simp only at hc16
      have e := wr_on (v := v) hi hc16
      refine gc_dk (by repeat (first | exact Pick.here | apply Pick.there)) (fun b m => ?_)
      refine gc_skip ?_
      refine gx_then ?_
      refine gc_seq ?_
      refine gc_regionT 6 (by kernel_rfl) (by kernel_rfl) ?_
      refine sp zmv ?_
      refine sp znc ?_
      refine sp zfa ?_
      refine sp zl ?_
      refine sp zmv ?_
      refine sp zL ?_
      refine gs_nil ?_
      refine gl_put (K := Value.int .i64) (v := scV v) (wt0 rfl) rfl rfl rfl Ty.un_58 (by repeat (first | exact Pick.here | apply Pick.there)) ?_
      refine gnt ?_
      refine gsr ?_
      refine gp zas ?_
      refine gnt ?_
      refine gc_ret ?_
      refine gx_ret1 rfl (by conv => lhs; whnf) ?_
      exact fun w' hw => ⟨(), by rw [e, eV_zero], by rw [e]; exact St.dk (d := (oper d).write i v) (hw.sel (by repeat (first | exact Sel.nil | (apply Sel.cons; · (repeat (first | exact Pick.here | apply Pick.there)))))) rfl rfl rfl rfl rfl (by rw [encW_put]; rfl)⟩

set_option maxHeartbeats 400000 in
theorem read_ok {w : World} {F : Nat → Prop} {g : Nat} {d : DS} (h : stars [DiskR g d] w F) {ea : Nat → Addr} {es : List Nat} [Has es 1] [Has es 6] (hE : GErr es w (fun k => ¬ F k) 139 ea) {i : Int} :
    Calls Tryd.prog 31 #[.pointer (some ⟨g, 0, none⟩), .int .i64 i] w (Post w F (fun _ : Unit => .tuple #[scV (d.rd i).2, eV 139 ea (d.rd i).1]) (fun _ => [DiskR g d])) := by
  refine g_enter (env := [(0, .pointer (some ⟨g, 0, none⟩)), (1, .int .i64 i)]) Tryd.func31 rfl h Tryd.ntmps31 rfl rfl ?_
  refine gsr ?_
  refine zal fun b4 => ?_
  refine gp zas ?_
  refine gnt ?_
  refine gc_seq ?_
  refine gc_block ?_
  refine gsr ?_
  refine gp zmv ?_
  refine gp zmv ?_
  refine zc (fun _ => ?_) (c := fun w1 F1 F2 h1 h2 hd hst => has_ok (i := i) h1)
  refine gp znt ?_
  refine gp zas ?_
  refine gnt ?_
  refine gif rfl (fun hc8 => ?_) (fun hc8 => ?_)
  · try simp only at hc8
    have e := rd_out (i := i) hc8
    refine gc_seq ?_
    refine gc_regionZ 3 [] ?_
    refine yps 0 rfl zba ?_
    refine yps 1 rfl (r_ld1o rfl Ty.row_26 (hE.c 1 Has.h) (hE.n 1 Has.h)) ?_
    refine yos 2 rfl ?_
    refine zsA (new := sc (sec0)) (sc_length _) (sc_one _) ?_
    refine yxs ?_
    refine yzs rfl ?_
    refine gp zas ?_
    refine gnt ?_
    refine gc_ret ?_
    refine gx_block_ret ?_
    refine gx_then_ret ?_
    refine gx_retct rfl rfl (by conv => lhs; whnf) (ld_aggS Ty.row_37 Ty.sz_37 (by repeat (first | exact Pick.here | apply Pick.there)) (by (simp only [List.drop_succ_cons, List.drop_zero, List.take_succ_cons, List.take_zero, List.cons_append, List.nil_append, List.append_assoc, drop_dc, drop_dc', take_dc, take_dc', drop_L, drop_L', take_L, take_L', len_L, Nat.reduceLeDiff, Nat.reduceSub, Nat.reduceAdd, Nat.le_refl, List.length_cons, List.length_append, List.length_nil, dc_length, List.drop_nil, List.take_nil, List.append_nil, List.length_map, List.length_replicate]; first | done | rfl)) (by first | rfl | (simp only [List.drop_succ_cons, List.drop_zero, List.take_succ_cons, List.take_zero, List.cons_append, List.nil_append, List.append_assoc, drop_dc, drop_dc', take_dc, take_dc', drop_L, drop_L', take_L, take_L', len_L, Nat.reduceLeDiff, Nat.reduceSub, Nat.reduceAdd, Nat.le_refl, List.length_cons, List.length_append, List.length_nil, dc_length, List.drop_nil, List.take_nil, List.append_nil, List.length_map, List.length_replicate]; first | done | omega))) ?_
    exact fun w' hw => ⟨(), by rw [e]; rfl, hw.sel (by repeat (first | exact Sel.nil | (apply Sel.cons; · (repeat (first | exact Pick.here | apply Pick.there)))))⟩
  · try simp only at hc8
    have hi : d.has i = true := hc8
    obtain ⟨hi0, hi1⟩ := has_iff.1 hi
    refine gc_dk (by repeat (first | exact Pick.here | apply Pick.there)) (fun b m => ?_)
    refine gsr ?_
    refine gp zmv ?_
    refine gp znc ?_
    refine gp zfa ?_
    refine gp zl ?_
    refine gp zas ?_
    refine gnt ?_
    refine gif rfl (fun hc15 => ?_) (fun hc15 => ?_)
    · try simp only at hc15
      have e := rd_off hi hc15
      refine gc_seq ?_
      refine gc_regionZ 3 [] ?_
      refine yps 0 rfl zba ?_
      refine yps 1 rfl (r_ld1o rfl Ty.row_26 (hE.c 6 Has.h) (hE.n 6 Has.h)) ?_
      refine yos 2 rfl ?_
      refine zsA (new := sc (sec0)) (sc_length _) (sc_one _) ?_
      refine yxs ?_
      refine yzs rfl ?_
      refine gp zas ?_
      refine gnt ?_
      refine gc_ret ?_
      refine gx_block_ret ?_
      refine gx_then_ret ?_
      refine gx_retct rfl rfl (by conv => lhs; whnf) (ld_aggS Ty.row_37 Ty.sz_37 (by repeat (first | exact Pick.here | apply Pick.there)) (by (simp only [List.drop_succ_cons, List.drop_zero, List.take_succ_cons, List.take_zero, List.cons_append, List.nil_append, List.append_assoc, drop_dc, drop_dc', take_dc, take_dc', drop_L, drop_L', take_L, take_L', len_L, Nat.reduceLeDiff, Nat.reduceSub, Nat.reduceAdd, Nat.le_refl, List.length_cons, List.length_append, List.length_nil, dc_length, List.drop_nil, List.take_nil, List.append_nil, List.length_map, List.length_replicate]; first | done | rfl)) (by first | rfl | (simp only [List.drop_succ_cons, List.drop_zero, List.take_succ_cons, List.take_zero, List.cons_append, List.nil_append, List.append_assoc, drop_dc, drop_dc', take_dc, take_dc', drop_L, drop_L', take_L, take_L', len_L, Nat.reduceLeDiff, Nat.reduceSub, Nat.reduceAdd, Nat.le_refl, List.length_cons, List.length_append, List.length_nil, dc_length, List.drop_nil, List.take_nil, List.append_nil, List.length_map, List.length_replicate]; first | done | omega))) ?_
      exact fun w' hw => ⟨(), by rw [e]; rfl, St.dk (hw.sel (by repeat (first | exact Sel.nil | (apply Sel.cons; · (repeat (first | exact Pick.here | apply Pick.there)))))) rfl rfl rfl rfl rfl rfl⟩
    · refine gc_skip ?_
      refine gx_block_normal ?_
      refine gx_then ?_
      refine gc_seq ?_
      refine gsr ?_
      refine gp zmv ?_
      refine gp znc ?_
      refine gp zfa ?_
      refine gp zl ?_
      refine gp zmv ?_
      refine gp (r_lookW rfl rfl (by repeat (first | exact Pick.here | apply Pick.there))) ?_
      refine gp zmv ?_
      refine gp zex ?_
      refine gp zex ?_
      refine zal fun b6 => ?_
      refine zsA (new := sc ((lookW i d.ws).getD sec0)) (sc_length _) (sc_one _) ?_
      refine gp zas ?_
      refine gnt ?_
      refine gsr ?_
      refine gp zmv ?_
      refine gnt ?_
      refine gif rfl (fun hc31 => ?_) (fun hc31 => ?_)
      · try simp only at hc31
        have e := rd_some hi hc15 hc31
        refine gsr ?_
        refine gp zL ?_
        refine zsA (new := sc ((lookW i d.ws).getD sec0)) (sc_length _) (sc_one _) ?_
        refine gp zas ?_
        refine gnt ?_
        refine gc_ret ?_
        refine gx_then_ret ?_
        refine gx_retct rfl rfl (by conv => lhs; whnf) (ld_aggS Ty.row_37 Ty.sz_37 (by repeat (first | exact Pick.here | apply Pick.there)) (by (simp only [List.drop_succ_cons, List.drop_zero, List.take_succ_cons, List.take_zero, List.cons_append, List.nil_append, List.append_assoc, drop_dc, drop_dc', take_dc, take_dc', drop_L, drop_L', take_L, take_L', len_L, Nat.reduceLeDiff, Nat.reduceSub, Nat.reduceAdd, Nat.le_refl, List.length_cons, List.length_append, List.length_nil, dc_length, List.drop_nil, List.take_nil, List.append_nil, List.length_map, List.length_replicate]; first | done | rfl)) (by first | rfl | (simp only [List.drop_succ_cons, List.drop_zero, List.take_succ_cons, List.take_zero, List.cons_append, List.nil_append, List.append_assoc, drop_dc, drop_dc', take_dc, take_dc', drop_L, drop_L', take_L, take_L', len_L, Nat.reduceLeDiff, Nat.reduceSub, Nat.reduceAdd, Nat.le_refl, List.length_cons, List.length_append, List.length_nil, dc_length, List.drop_nil, List.take_nil, List.append_nil, List.length_map, List.length_replicate]; first | done | omega))) ?_
        exact fun w' hw => ⟨(), by rw [e, eV_zero]; rfl, St.dk (hw.sel (by repeat (first | exact Sel.nil | (apply Sel.cons; · (repeat (first | exact Pick.here | apply Pick.there)))))) rfl rfl rfl rfl rfl rfl⟩
      · try simp only at hc31
        have e := rd_none hi hc15 hc31
        refine gc_skip ?_
        refine gx_then ?_
        refine gsr ?_
        refine gp zmv ?_
        refine gp znc ?_
        refine gp zfa ?_
        refine gp zl ?_
        refine gp zmv ?_
        refine gp zia ?_
        refine gp (r_ldS (m := d.n) (f := d.ss) i.toNat (by omega)) ?_
        refine zsA (new := sc (d.ss i.toNat)) (sc_length _) (sc_one _) ?_
        refine gp zas ?_
        refine gnt ?_
        refine gc_ret ?_
        refine gx_retct rfl rfl (by conv => lhs; whnf) (ld_aggS Ty.row_37 Ty.sz_37 (by repeat (first | exact Pick.here | apply Pick.there)) (by (simp only [List.drop_succ_cons, List.drop_zero, List.take_succ_cons, List.take_zero, List.cons_append, List.nil_append, List.append_assoc, drop_dc, drop_dc', take_dc, take_dc', drop_L, drop_L', take_L, take_L', len_L, Nat.reduceLeDiff, Nat.reduceSub, Nat.reduceAdd, Nat.le_refl, List.length_cons, List.length_append, List.length_nil, dc_length, List.drop_nil, List.take_nil, List.append_nil, List.length_map, List.length_replicate]; first | done | rfl)) (by first | rfl | (simp only [List.drop_succ_cons, List.drop_zero, List.take_succ_cons, List.take_zero, List.cons_append, List.nil_append, List.append_assoc, drop_dc, drop_dc', take_dc, take_dc', drop_L, drop_L', take_L, take_L', len_L, Nat.reduceLeDiff, Nat.reduceSub, Nat.reduceAdd, Nat.le_refl, List.length_cons, List.length_append, List.length_nil, dc_length, List.drop_nil, List.take_nil, List.append_nil, List.length_map, List.length_replicate]; first | done | omega))) ?_
        exact fun w' hw => ⟨(), by rw [e, eV_zero]; rfl, St.dk (hw.sel (by repeat (first | exact Sel.nil | (apply Sel.cons; · (repeat (first | exact Pick.here | apply Pick.there)))))) rfl rfl rfl rfl rfl rfl⟩

set_option maxHeartbeats 400000 in
theorem arm_ok {w : World} {F : Nat → Prop} {g : Nat} {d : DS} (h : stars [DiskR g d] w F) {n : Int} :
    Calls Tryd.prog 22 #[.pointer (some ⟨g, 0, none⟩), .int .i64 n] w (Post w F (fun _ : Unit => .tuple #[]) (fun _ => [DiskR g { d with armed := decide (0 ≤ n), left := n }])) := by
  obtain ⟨b, m, h⟩ := dk_open h
  refine g_enter (env := [(0, .pointer (some ⟨g, 0, none⟩)), (1, .int .i64 n)]) Tryd.func22 rfl h Tryd.ntmps22 rfl rfl ?_
  refine gc_region ?_
  refine gp zmv ?_
  refine gp zmv ?_
  refine gp zmv ?_
  refine gp zge ?_
  refine gp zmv ?_
  refine gp znc ?_
  refine gp zfa ?_
  refine zs1 ?_
  refine gp znc ?_
  refine gp zfa ?_
  refine zs1 ?_
  refine gl_nil ?_
  refine gx_ret0' rfl ?_
  exact fun w' hw => ⟨(), rfl, St.dk (hw.sel (by repeat (first | exact Sel.nil | (apply Sel.cons; · (repeat (first | exact Pick.here | apply Pick.there)))))) rfl rfl rfl rfl rfl rfl⟩

set_option maxHeartbeats 400000 in
theorem off_ok {w : World} {F : Nat → Prop} {g : Nat} {d : DS} (h : stars [DiskR g d] w F) :
    Calls Tryd.prog 24 #[.pointer (some ⟨g, 0, none⟩)] w (Post w F (fun _ : Unit => .bool d.off) (fun _ => [DiskR g d])) := by
  obtain ⟨b, m, h⟩ := dk_open h
  refine g_enter (env := [(0, .pointer (some ⟨g, 0, none⟩))]) Tryd.func24 rfl h Tryd.ntmps24 rfl rfl ?_
  refine gsr ?_
  refine gp zas ?_
  refine gnt ?_
  refine gsr ?_
  refine gp zmv ?_
  refine gp znc ?_
  refine gp zfa ?_
  refine gp zl ?_
  refine gp zas ?_
  refine gnt ?_
  refine gc_ret ?_
  refine gx_ret1 rfl (by conv => lhs; whnf) ?_
  exact fun w' hw => ⟨(), rfl, St.dk (hw.sel (by repeat (first | exact Sel.nil | (apply Sel.cons; · (repeat (first | exact Pick.here | apply Pick.there)))))) rfl rfl rfl rfl rfl rfl⟩

set_option maxHeartbeats 400000 in
theorem size_ok {w : World} {F : Nat → Prop} {g : Nat} {d : DS} (h : stars [DiskR g d] w F) :
    Calls Tryd.prog 37 #[.pointer (some ⟨g, 0, none⟩)] w (Post w F (fun _ : Unit => .int .i64 d.n) (fun _ => [DiskR g d])) := by
  obtain ⟨b, m, h⟩ := dk_open h
  refine g_enter (env := [(0, .pointer (some ⟨g, 0, none⟩))]) Tryd.func37 rfl h Tryd.ntmps37 rfl rfl ?_
  refine gsr ?_
  refine gp zas ?_
  refine gnt ?_
  refine gsr ?_
  refine gp zmv ?_
  refine gp znc ?_
  refine gp zfa ?_
  refine gp zl ?_
  refine gp zln ?_
  refine gp zas ?_
  refine gnt ?_
  refine gc_ret ?_
  refine gx_ret1 rfl (by conv => lhs; whnf) ?_
  exact fun w' hw => ⟨(), rfl, St.dk (hw.sel (by repeat (first | exact Sel.nil | (apply Sel.cons; · (repeat (first | exact Pick.here | apply Pick.there)))))) rfl rfl rfl rfl rfl rfl⟩

end Go.Proofs.YtffkjjakceojfaaDoor

/- Walks, by program (wg.py) out of a spec. -/
namespace Go.Proofs.YtffkjjakceojfaaDoor
open Go
set_option linter.unusedVariables false
set_option linter.unusedSimpArgs false

attribute [local irreducible] Gl Gc Gx Gs Runs Wt

set_option maxHeartbeats 400000 in
theorem unsynced_ok {w : World} {F : Nat → Prop} {g : Nat} {d : DS} (h : stars [DiskR g d] w F) (hk : DOk d) :
    Calls Tryd.prog 36 #[.pointer (some ⟨g, 0, none⟩)] w (Post w F (fun r : Option Addr × Nat => .slice r.1 d.ws.length r.2) (fun r => [rowR 3 1 r.1 d.ws.length r.2 ((sortZ (keysW d.ws)).map (Value.int .i64)), DiskR g d])) := by
  obtain ⟨b, m, h⟩ := dk_open h
  refine g_enter (env := [(0, .pointer (some ⟨g, 0, none⟩))]) Tryd.func36 rfl h Tryd.ntmps36 rfl rfl ?_
  refine gsr ?_
  refine gp zas ?_
  refine gnt ?_
  refine gsr ?_
  refine gp zmv ?_
  refine gp znc ?_
  refine gp zfa ?_
  refine gp zl ?_
  refine zc (fun b7 => ?_) (c := fun w1 F1 F2 h1 h2 hd hst => keys_ok (m := m) h1)
  refine zc ?_ (c := fun w1 F1 F2 h1 h2 hd hst => sortedK_ok (l := encW d.ws) h1 (by rw [encW_keys]; exact hk.nd) (encW_range hk) (encW_len hk))
  rintro ⟨a8, c8⟩
  rw [encW_keys]
  rw [show (encW d.ws).length = d.ws.length from List.length_map _]
  refine gp zas ?_
  refine gnt ?_
  refine gc_ret ?_
  refine gx_ret1 rfl (by conv => lhs; whnf) ?_
  exact fun w' hw => ⟨(a8, c8), rfl, (St.dk (L := [rowR 3 1 a8 d.ws.length c8 ((sortZ (keysW d.ws)).map (Value.int .i64))]) (hw.sel (by repeat (first | exact Sel.nil | (apply Sel.cons; · (repeat (first | exact Pick.here | apply Pick.there)))))) rfl rfl rfl rfl rfl rfl).sel (by repeat (first | exact Sel.nil | (apply Sel.cons; · (repeat (first | exact Pick.here | apply Pick.there)))))⟩

set_option maxHeartbeats 400000 in
theorem sync_ok' {w : World} {F : Nat → Prop} {g : Nat} {d : DS} (h : stars [DiskR g d] w F) (hk : DOk d) {ea : Nat → Addr} {es : List Nat} [Has es 1] [Has es 6] (hE : GErr es w (fun k => ¬ F k) 139 ea) :
    Calls Tryd.prog 27 #[.pointer (some ⟨g, 0, none⟩)] w (Post w F (fun _ : Unit => eV 139 ea (if (oper d).off then 6 else 0)) (fun _ => [DiskR g d.syncd])) := by
  refine g_enter (env := [(0, .pointer (some ⟨g, 0, none⟩))]) Tryd.func27 rfl h Tryd.ntmps27 rfl rfl ?_
  refine gsr ?_
  refine gp zas ?_
  refine gnt ?_
  refine gc_seq ?_
  refine gsr ?_
  refine gp zmv ?_
  refine zc (fun _ => ?_) (c := fun w1 F1 F2 h1 h2 hd hst => operate_ok h1 hk (hE.mv hst.still))
  refine gp zas ?_
  refine gnt ?_
  refine gsr ?_
  refine gp zmv ?_
  refine gp (r_bool (c := (oper d).off) (r_nenil rfl (by kernel_rfl)) (by cases (oper d).off <;> rfl)) ?_
  refine gnt ?_
  refine gif rfl (fun hc9 => ?_) (fun hc9 => ?_)
  · refine gsr ?_
    refine gp zmv ?_
    refine gp zas ?_
    refine gnt ?_
    refine gc_ret ?_
    refine gx_then_ret ?_
    refine gx_ret1 rfl (by conv => lhs; whnf) ?_
    exact fun w' hw => ⟨(), by rw [if_pos hc9], by rw [DS.syncd, if_pos hc9]; exact hw.sel (by repeat (first | exact Sel.nil | (apply Sel.cons; · (repeat (first | exact Pick.here | apply Pick.there)))))⟩
  · try simp only at hc9
    have hk2 := oper_ok hk
    have ed : d.syncd = (oper d).sync := by rw [DS.syncd, if_neg (by rw [hc9]; decide)]
    generalize hd2 : oper d = d2 at *
    refine gc_dk (by repeat (first | exact Pick.here | apply Pick.there)) (fun b m => ?_)
    refine gc_skip ?_
    refine gx_then ?_
    refine gc_seq ?_
    refine gsr ?_
    refine gp zmv ?_
    refine gp znc ?_
    refine gp zfa ?_
    refine gp zl ?_
    refine gl_range (wt0 rfl) rfl Ty.un_58 (by repeat (first | exact Pick.here | apply Pick.there)) (fun r => ?_)
    refine gnt ?_
    refine gc_block ?_
    refine gc_loop (α := List (Int × Sec) × (Nat → Sec) × Option (Value × Value)) (fun q => [pureR (SyncInv d2 q.1 q.2.1), blk g 60 [.slice (some ⟨b, 0, none⟩) d2.n d2.n, .map (some m), .bool d2.off, .bool d2.armed, .int .i64 d2.left], blk b 37 (secs d2.n q.2.1), itR r m (encK (Value.int .i64) (encW d2.ws)) (encK (Value.int .i64) (encW q.1)) q.2.2]) (fun q => []) [4, 5, 16, 17, 18, 19, 20, 21, 22, 23, 24, 25, 26, 27] (fun q => q.1.length) (d2.ws, d2.ss, none) ?_ ?_ ?_
    · refine env_start (by kernel_rfl)
    · exact zlp (SyncInv.start d2)
    · intro q u
      obtain ⟨lw, f, la⟩ := q
      refine gc_pureR (fun hi => ?_)
      replace hi : SyncInv d2 lw f := hi
      refine gsr ?_
      refine gl_nextO (wt0 rfl) rfl (by repeat (first | exact Pick.here | apply Pick.there)) (fun o16 h16 => ?_)
      rcases o16 with _ | ⟨A', p, B'⟩
      · have h16 : encK (Value.int .i64) (encW lw) = [] := h16
        have hlw := encKW_nil h16
        subst hlw
        refine gp zex ?_
        refine gnt ?_
        refine gc_seq ?_
        refine gc_condF rfl rfl ?_
        refine gc_exit ?_
        refine gx_then_exit ?_
        refine gx_round_exit ?_
        refine gx_block_hit ?_
        refine gx_then ?_
        refine gsr ?_
        refine gl_itMap (by repeat (first | exact Pick.here | apply Pick.there)) ?_
        refine gp zmv ?_
        refine gp znc ?_
        refine gp zfa ?_
        refine gp zl ?_
        refine gl_clear (wt0 rfl) rfl Ty.un_58 (by repeat (first | exact Pick.here | apply Pick.there)) ?_
        refine gnt ?_
        refine gsr ?_
        refine gp zas ?_
        refine gnt ?_
        refine gc_ret ?_
        refine gx_ret1 rfl (by conv => lhs; whnf) ?_
        exact fun w' hw => ⟨(), by rw [if_neg (by rw [hc9]; decide), eV_zero], by rw [ed]; exact St.dk (d := d2.sync) (hw.sel (by repeat (first | exact Sel.nil | (apply Sel.cons; · (repeat (first | exact Pick.here | apply Pick.there)))))) rfl rfl rfl rfl (secs_ext fun i hi' => hi.done i) rfl⟩
      · have h16 : encK (Value.int .i64) (encW lw) = A' ++ p :: B' := h16
        obtain ⟨A, kk, v, B, rfl, rfl, rfl, rfl⟩ := encKW_split h16
        have hkk := hi.key hk2
        refine gp zex ?_
        refine gnt ?_
        refine gc_seq ?_
        refine gc_condT rfl rfl ?_
        refine gc_skip ?_
        refine gx_then ?_
        refine gc_block ?_
        refine gsr ?_
        refine gp (r_entry rfl (by repeat (first | exact Pick.here | apply Pick.there))) ?_
        refine gp zex ?_
        refine gp zex ?_
        refine zal fun b5 => ?_
        refine gp zas ?_
        refine zsA (sc_length _) (sc_one _) ?_
        refine gnt ?_
        refine gc_regionT 7 (by kernel_rfl) (by kernel_rfl) ?_
        refine sp zmv ?_
        refine sp znc ?_
        refine sp zfa ?_
        refine sp (zl) ?_
        refine sp zmv ?_
        refine sp zL ?_
        refine sp (zia) ?_
        refine gs_nil ?_
        refine gl_stS (m := d2.n) (f := f) (v := v) kk.toNat (by omega) ?_
        refine gl_nil ?_
        refine gx_block_normal ?_
        refine zrd ((A ++ B, updS f kk.toNat v, some (Value.int .i64 kk, scV v))) ?_ ?_
        · simp
        · have eAB : encK (Value.int .i64) (encW (A ++ B)) = encK (Value.int .i64) (encW A) ++ encK (Value.int .i64) (encW B) := by simp [encK, encW]
          simp only [eAB]
          exact zlp (hi.step hk2)

set_option maxHeartbeats 400000 in
theorem crash_ok' {w : World} {F : Nat → Prop} {g : Nat} {d : DS} (h : stars [DiskR g d] w F) (hk : DOk d) {kb : List Bool} {ak : Option Addr} {nk ck : Nat} (hb : RdRow w (fun k => ¬ F k) 1 ak nk (kb.map Value.bool)) :
    Calls Tryd.prog 25 #[.pointer (some ⟨g, 0, none⟩), .slice ak nk ck] w (Post w F (fun _ : Unit => .tuple #[]) (fun _ => [DiskR g (d.crash kb)])) := by
  have hnk : nk = kb.length := by have := hb.1; simp at this; omega
  have hsl := sortZ_len d
  have hwl := ws_len hk
  have hn4 := hk.n
  refine g_enter (env := [(0, .pointer (some ⟨g, 0, none⟩)), (1, .slice ak nk ck)]) Tryd.func25 rfl h Tryd.ntmps25 rfl rfl ?_
  refine gc_seq ?_
  refine gsr ?_
  refine gp zmv ?_
  refine zc ?_ (c := fun w1 F1 F2 h1 h2 hd hst => unsynced_ok h1 hk)
  rintro ⟨a7, c7⟩
  refine gl_dk (by repeat (first | exact Pick.here | apply Pick.there)) (fun b m => ?_)
  refine gp zln ?_
  refine gp zmv ?_
  refine gnt ?_
  refine gc_block ?_
  refine gc_loop (α := Nat) (fun j => [pureR (j ≤ d.ws.length), blk g 60 [.slice (some ⟨b, 0, none⟩) d.n d.n, .map (some m), .bool d.off, .bool d.armed, .int .i64 d.left], blk b 37 (secs d.n (keepF (sortZ (keysW d.ws)) kb d.ws d.ss j)), mapR m (encK (Value.int .i64) (encW d.ws)), rowR 3 1 a7 d.ws.length c7 ((sortZ (keysW d.ws)).map (Value.int .i64))]) (fun j => [(9, .int .i64 (j : Int))]) [4, 5, 10, 11, 12, 13, 14, 15, 16, 17, 18, 19, 20, 21, 22, 23, 24, 25, 26, 27, 28, 29, 30, 31, 32, 33, 34, 35, 36] (fun j => d.ws.length - j) 0 ?_ ?_ ?_
  · refine env_start (by kernel_rfl)
  · exact zlp (Nat.zero_le _)
  · intro j u
    refine gc_pureR (fun hj => ?_)
    replace hj : j ≤ d.ws.length := hj
    refine gsr ?_
    refine gp zlt ?_
    refine gnt ?_
    refine gc_seq ?_
    refine gif rfl (fun hc10 => ?_) (fun hc10 => ?_)
    · try simp only at hc10
      have hj' : j < d.ws.length := by omega
      have hkk := sortZ_key hk (j := j) (by omega)
      refine gc_fact (p := ∃ ga oa, a7 = some ⟨ga, oa, none⟩) (fun w hw => (by obtain ⟨ga, oa, ha, _⟩ := (hw.row (a := a7) (by repeat (first | exact Pick.here | apply Pick.there))).2.2 (by omega); exact ⟨ga, oa, ha⟩)) (fun hx7 => ?_)
      obtain ⟨ga, oa, ha⟩ := hx7
      subst ha
      refine gc_skip ?_
      refine gx_then ?_
      refine gc_seq ?_
      refine gc_block ?_
      refine gsr ?_
      refine gp zmv ?_
      refine gp (zia) ?_
      refine gp (r_ld1r (v := .int .i64 ((sortZ (keysW d.ws)).getD j 0)) rfl Ty.row_3 (by repeat (first | exact Pick.here | apply Pick.there)) (by simp [List.getD, hsl, hj'])) ?_
      refine gp zas ?_
      refine gp zas ?_
      refine gnt ?_
      refine gc_seq ?_
      by_cases hjn : j < nk
      · obtain ⟨gk, ok, hak, hAk, _, hrk⟩ := hb.elem hjn
        subst hak
        refine gc_region ?_
        refine gp zmv ?_
        refine gp zmv ?_
        refine gp zln ?_
        refine gp (r_bool (c := true) zlt (decide_eq_true (by omega))) ?_
        refine gp zmv ?_
        refine gq zmv ?_
        refine gq zmv ?_
        refine gq (zia) ?_
        refine gq (r_ld1o (v := .bool (kb.getD j false)) rfl Ty.row_4 (hrk 0 _ (by simp [List.getD, ← hnk, hjn, show j < kb.length by omega])) hAk) ?_
        refine gp zpk ?_
        refine gnt ?_
        refine gif rfl (fun hc23 => ?_) (fun hc23 => ?_)
        · refine gc_regionT 12 (by kernel_rfl) (by kernel_rfl) ?_
          refine sp zmv ?_
          refine sp znc ?_
          refine sp zfa ?_
          refine sp zl ?_
          refine sp zmv ?_
          refine sp zmv ?_
          refine sp znc ?_
          refine sp zfa ?_
          refine sp zl ?_
          refine sp zmv ?_
          refine sp (r_lookW1 rfl rfl (by repeat (first | exact Pick.here | apply Pick.there))) ?_
          refine sp (zia) ?_
          refine gs_nil ?_
          refine gl_stS (m := d.n) ((sortZ (keysW d.ws)).getD j 0).toNat (by omega) ?_
          refine gl_nil ?_
          refine gx_block_normal ?_
          refine gx_then ?_
          refine gc_region ?_
          refine gp zad ?_
          refine gp zmv ?_
          refine gl_nil ?_
          refine zrd (j + 1) ?_ ?_
          · show d.ws.length - (j + 1) < d.ws.length - j
            omega
          · simp only [keepF_yes hc23]
            exact zlp (show j + 1 ≤ d.ws.length by omega)
        · refine gc_skip ?_
          refine gx_block_normal ?_
          refine gx_then ?_
          refine gc_region ?_
          refine gp zad ?_
          refine gp zmv ?_
          refine gl_nil ?_
          refine zrd (j + 1) ?_ ?_
          · show d.ws.length - (j + 1) < d.ws.length - j
            omega
          · simp only [keepF_no (show kb.getD j false = false by exact hc23)]
            exact zlp (show j + 1 ≤ d.ws.length by omega)
      · refine gc_region ?_
        refine gp zmv ?_
        refine gp zmv ?_
        refine gp zln ?_
        refine gp (r_bool (c := false) zlt (decide_eq_false (by omega))) ?_
        refine gp zmv ?_
        refine gn ?_
        refine gn ?_
        refine gn ?_
        refine gn ?_
        refine gp zpk ?_
        refine gnt ?_
        refine gc_condF rfl rfl ?_
        refine gc_skip ?_
        refine gx_block_normal ?_
        refine gx_then ?_
        refine gc_region ?_
        refine gp zad ?_
        refine gp zmv ?_
        refine gl_nil ?_
        refine zrd (j + 1) ?_ ?_
        · show d.ws.length - (j + 1) < d.ws.length - j
          omega
        · simp only [keepF_no (show kb.getD j false = false by (have h9 : kb[j]? = none := List.getElem?_eq_none (by omega)); simp only [List.getD, h9, Option.getD_none])]
          exact zlp (show j + 1 ≤ d.ws.length by omega)
    · try simp only at hc10
      have hj' : j = d.ws.length := by omega
      refine gc_exit ?_
      refine gx_then_exit ?_
      refine gx_round_exit ?_
      refine gx_block_hit ?_
      refine gx_then ?_
      refine gsr ?_
      refine gp zmv ?_
      refine gp znc ?_
      refine gp zfa ?_
      refine gp zl ?_
      refine gl_clear (wt0 rfl) rfl Ty.un_58 (by repeat (first | exact Pick.here | apply Pick.there)) ?_
      refine gnt ?_
      refine gc_region ?_
      refine gp zmv ?_
      refine gp zmv ?_
      refine gp znc ?_
      refine gp zfa ?_
      refine zs1 ?_
      refine gp znc ?_
      refine gp zfa ?_
      refine zs1 ?_
      refine gl_nil ?_
      refine gx_ret0' rfl ?_
      exact fun w' hw => ⟨(), rfl, St.dk (d := d.crash kb) (hw.sel (by repeat (first | exact Sel.nil | (apply Sel.cons; · (repeat (first | exact Pick.here | apply Pick.there)))))) rfl rfl rfl rfl (by rw [hj', ← hsl]; rfl) rfl⟩

end Go.Proofs.YtffkjjakceojfaaDoor

/- Plain words: SHA-256 as layer 2 computes it. No program in sight. -/
namespace Go.Proofs.YtffkjjakceojfaaDoor
set_option linter.unusedVariables false

def rotr (x : UInt32) (n : Nat) : UInt32 := x <<< UInt32.ofNat (32 - n) ||| x >>> UInt32.ofNat n
def wordAt (b : List UInt8) (k : Nat) : UInt32 := ((b.getD (4 * k) 0).toUInt32 <<< UInt32.ofNat 24 ||| (b.getD (4 * k + 1) 0).toUInt32 <<< UInt32.ofNat 16) ||| (b.getD (4 * k + 2) 0).toUInt32 <<< UInt32.ofNat 8 ||| (b.getD (4 * k + 3) 0).toUInt32
def sg0 (x : UInt32) : UInt32 := rotr x 7 ^^^ rotr x 18 ^^^ x >>> UInt32.ofNat 3
def sg1 (x : UInt32) : UInt32 := rotr x 17 ^^^ rotr x 19 ^^^ x >>> UInt32.ofNat 10
/-- The schedule of a block of 64 bytes. -/
def sch (b : List UInt8) (j : Nat) : UInt32 :=
  if h : j < 16 then wordAt b j else sch b (j - 16) + sg0 (sch b (j - 15)) + sch b (j - 7) + sg1 (sch b (j - 2))
termination_by j
structure V8 where
  a : UInt32
  b : UInt32
  c : UInt32
  d : UInt32
  e : UInt32
  f : UInt32
  g : UInt32
  h : UInt32
def rnd (k w : UInt32) (v : V8) : V8 :=
  let one := v.h + (rotr v.e 6 ^^^ rotr v.e 11 ^^^ rotr v.e 25) + ((v.e &&& v.f) ^^^ (~~~v.e &&& v.g)) + k + w
  let two := (rotr v.a 2 ^^^ rotr v.a 13 ^^^ rotr v.a 22) + (((v.a &&& v.b) ^^^ (v.a &&& v.c)) ^^^ (v.b &&& v.c))
  ⟨one + two, v.a, v.b, v.c, v.d + one, v.e, v.f, v.g⟩
def rnds (K W : Nat → UInt32) (v : V8) : Nat → V8
  | 0 => v
  | k + 1 => rnd (K k) (W k) (rnds K W v k)
def V8.add (x y : V8) : V8 := ⟨x.a + y.a, x.b + y.b, x.c + y.c, x.d + y.d, x.e + y.e, x.f + y.f, x.g + y.g, x.h + y.h⟩
def V8.get (x : V8) : Nat → UInt32
  | 0 => x.a | 1 => x.b | 2 => x.c | 3 => x.d | 4 => x.e | 5 => x.f | 6 => x.g | _ => x.h
def take64 (K : Nat → UInt32) (v : V8) (b : List UInt8) : V8 := v.add (rnds K (sch b) v 64)
/-- All whole blocks of b. -/
def takes (K : Nat → UInt32) (v : V8) (b : List UInt8) : V8 × List UInt8 :=
  if h : 64 ≤ b.length then takes K (take64 K v (b.take 64)) (b.drop 64) else (v, b)
termination_by b.length
decreasing_by simp; omega
def v0 : V8 := ⟨1779033703, 3144134277, 1013904242, 2773480762, 1359893119, 2600822924, 528734635, 1541459225⟩
/-- A hash: its words, the bytes that aren't taken yet, how many bytes it was handed. -/
structure HS where
  v : V8
  rest : List UInt8
  len : Nat
def hs0 : HS := ⟨v0, [], 0⟩
def hWrite (K : Nat → UInt32) (s : HS) (b : List UInt8) : HS :=
  let p := takes K s.v (s.rest ++ b)
  ⟨p.1, p.2, s.len + b.length⟩
theorem takes_rest (K : Nat → UInt32) (v : V8) (b : List UInt8) : (takes K v b).2.length < 64 := by
  fun_induction takes K v b with
  | case1 v b h ih => exact ih
  | case2 v b h => simpa using h
theorem takes_le (K : Nat → UInt32) (v : V8) (b : List UInt8) : (takes K v b).2.length ≤ b.length := by
  fun_induction takes K v b with
  | case1 v b h ih => simp at ih; omega
  | case2 v b h => exact Nat.le_refl _
def lenBytes (len : Nat) : List UInt8 := (List.range 8).map fun i => UInt8.ofNat (len * 8 / 2 ^ (8 * (7 - i)))
def padN (m : Nat) : Nat := (55 + 64 - m % 64) % 64
def padded (s : HS) : List UInt8 := s.rest ++ 128 :: (List.replicate (padN s.rest.length) 0 ++ lenBytes s.len)
def outByte (v : V8) (i : Nat) : UInt8 := (v.get (i / 4) >>> UInt32.ofNat (24 - 8 * (i % 4))).toUInt8
def hSum (K : Nat → UInt32) (s : HS) : List UInt8 := (List.range 32).map (outByte (takes K s.v (padded s)).1)
def part4 (n : Nat) : List UInt8 := [UInt8.ofNat (n / 2 ^ 24), UInt8.ofNat (n / 2 ^ 16), UInt8.ofNat (n / 2 ^ 8), UInt8.ofNat n]
def hOf (K : Nat → UInt32) (dom : Int) (parts : List (List UInt8)) : List UInt8 :=
  (hSum K (parts.foldl (fun s p => hWrite K (hWrite K s (part4 p.length)) p) (hWrite K hs0 [UInt8.ofNat (dom % 256).toNat]))).take 16
theorem hOf_length (K : Nat → UInt32) (dom : Int) (parts : List (List UInt8)) : (hOf K dom parts).length = 16 := by simp [hOf, hSum]
end Go.Proofs.YtffkjjakceojfaaDoor

/- Walks, by program (wg.py) out of a spec. -/
namespace Go.Proofs.YtffkjjakceojfaaDoor
open Go
set_option linter.unusedVariables false
set_option linter.unusedSimpArgs false


theorem sch_lo {b : List UInt8} {k : Nat} (h : k < 16) : sch b k = wordAt b k := by rw [sch, dif_pos h]
theorem sch_hi {b : List UInt8} {k : Nat} (h : 16 ≤ k) : sch b k = sch b (k - 16) + sg0 (sch b (k - 15)) + sch b (k - 7) + sg1 (sch b (k - 2)) := by rw [sch, dif_neg (by omega)]
def v8c (v : V8) : List Value := [W32 v.a, W32 v.b, W32 v.c, W32 v.d, W32 v.e, W32 v.f, W32 v.g, W32 v.h]
theorem v8c_fnc (v : V8) : v8c v = fnc W32 8 v.get := rfl
def kc : List UInt32 := [0x428a2f98, 0x71374491, 0xb5c0fbcf, 0xe9b5dba5, 0x3956c25b, 0x59f111f1, 0x923f82a4, 0xab1c5ed5, 0xd807aa98, 0x12835b01, 0x243185be, 0x550c7dc3, 0x72be5d74, 0x80deb1fe, 0x9bdc06a7, 0xc19bf174, 0xe49b69c1, 0xefbe4786, 0x0fc19dc6, 0x240ca1cc, 0x2de92c6f, 0x4a7484aa, 0x5cb0a9dc, 0x76f988da, 0x983e5152, 0xa831c66d, 0xb00327c8, 0xbf597fc7, 0xc6e00bf3, 0xd5a79147, 0x06ca6351, 0x14292967, 0x27b70a85, 0x2e1b2138, 0x4d2c6dfc, 0x53380d13, 0x650a7354, 0x766a0abb, 0x81c2c92e, 0x92722c85, 0xa2bfe8a1, 0xa81a664b, 0xc24b8b70, 0xc76c51a3, 0xd192e819, 0xd6990624, 0xf40e3585, 0x106aa070, 0x19a4c116, 0x1e376c08, 0x2748774c, 0x34b0bcb5, 0x391c0cb3, 0x4ed8aa4a, 0x5b9cca4f, 0x682e6ff3, 0x748f82ee, 0x78a5636f, 0x84c87814, 0x8cc70208, 0x90befffa, 0xa4506ceb, 0xbef9a3f7, 0xc67178f2]
def Kc (i : Nat) : UInt32 := kc.getD i 0
/-- The constants' variable holds them, and lies in A. -/
structure KR (w : World) (A : Nat → Prop) : Prop where
  c : ∀ i, i < 64 → w.cell? ⟨18, i, none⟩ = some (W32 (Kc i))
  n : A 18
theorem KR.mv {w w' : World} {A A' : Nat → Prop} (h : KR w A) (hk : Still w A w' A') : KR w' A' :=
  ⟨fun i hi => by
    have := hk _ (World.block_lt_of_cell? w ⟨18, i, none⟩ (h.c i hi)) h.n
    rw [World.cell?_of_block (w := w) (a := ⟨18, i, none⟩) this.1]; exact h.c i hi,
   (hk _ (World.block_lt_of_cell? w ⟨18, 0, none⟩ (h.c 0 (by decide))) h.n).2⟩
theorem KR.at {w : World} {A : Nat → Prop} (h : KR w A) {e i : Nat} (he : e = i) (hi : i < 64) : w.cell? ⟨18, e, none⟩ = some (W32 (Kc i)) := by subst he; exact h.c e hi

attribute [local irreducible] Gl Gc Gx Gs Runs Wt

set_option maxHeartbeats 400000 in
theorem rot_ok {w : World} {F : Nat → Prop} {x : UInt32} {n : Nat} (h : stars [] w F) (h1 : 1 ≤ n) (h2 : n ≤ 31) :
    Calls Tryd.prog 55 #[W32 x, .int .i64 (-(n : Int))] w (Post w F (fun _ : Unit => W32 (rotr x n)) (fun _ => [])) := by
  refine g_enter (env := [(0, W32 x), (1, .int .i64 (-(n : Int)))]) Tryd.func55 rfl h Tryd.ntmps55 rfl rfl ?_
  refine gsr ?_
  refine gp zas ?_
  refine gnt ?_
  refine gsr ?_
  refine gp zmv ?_
  refine gp zci ?_
  refine gp (r_int (r_bits (op := .and) rfl rfl rfl) (rot_and h1 h2)) ?_
  refine gp zas ?_
  refine gnt ?_
  refine gsr ?_
  refine gp zmv ?_
  refine gp zmv ?_
  refine gp (r_shlw (j := 32 - n) rfl rfl rfl (by omega)) ?_
  refine gp zmv ?_
  refine gp zmv ?_
  refine gp (r_int (r_sub rfl rfl) (show IntKind.u64.wrap (32 - ((32 - n : Nat) : Int)) = (n : Int) by rw [wrap_u64 (by omega) (by omega)]; omega)) ?_
  refine gp (r_shrw (j := n) rfl rfl rfl (by omega)) ?_
  refine gp zwo ?_
  refine gp zas ?_
  refine gnt ?_
  refine gc_ret ?_
  refine gx_ret1 rfl (by conv => lhs; whnf) ?_
  exact ze ()

set_option maxHeartbeats 400000 in
theorem schedule_ok {w : World} {F : Nat → Prop} (h : stars [] w F) {b : List UInt8} {a : Option Addr} {c : Nat} (hx : RdRow w (fun k => ¬ F k) 1 a 64 (b.map B8))  :
    Calls Tryd.prog 54 #[.slice a 64 c] w (Post w F (fun _ : Unit => .agg (fnc W32 64 (sch b)).toArray) (fun _ => [])) := by
  have hbl : b.length = 64 := by have := hx.1; simp at this; omega
  obtain ⟨ga, oa, rfl, hA, hg, hra⟩ := hx.2.2 (by decide)
  refine g_enter (env := [(0, .slice (some ⟨ga, oa, none⟩) 64 c)]) Tryd.func54 rfl h Tryd.ntmps54 rfl rfl ?_
  refine gsr ?_
  refine zal fun b2 => ?_
  refine gnt ?_
  refine gsr ?_
  refine zal fun b3 => ?_
  refine gnt ?_
  refine gc_seq ?_
  refine gsr ?_
  refine gp zmv ?_
  refine gnt ?_
  refine gc_block ?_
  refine gc_loop (α := Nat) (fun k => [pureR (k ≤ 16), blk b3 100 (fnc W32 64 (pfx (sch b) (fun _ => 0) k)), blk b2 100 (List.replicate 64 (.int .u32 0))]) (fun k => [(10, .int .i64 (k : Int))]) [4, 11, 12, 13, 14, 15, 16, 17, 18, 19, 20, 21, 22, 23, 24, 25, 26, 27, 28, 29, 30, 31, 32, 33, 34, 35, 36, 37, 38, 39, 40, 41, 42, 43, 44, 45, 46, 47, 48] (fun k => 16 - k) 0 ?_ ?_ ?_
  · refine env_start (by kernel_rfl)
  · rintro w' hw
    obtain ⟨F', hF', hst'⟩ := hw.sel (M := [blk b3 100 (List.replicate 64 (.int .u32 0)), blk b2 100 (List.replicate 64 (.int .u32 0))]) (by repeat (first | exact Sel.nil | (apply Sel.cons; · (repeat (first | exact Pick.here | apply Pick.there)))))
    refine ⟨F', stars_pure_mk (Nat.zero_le _) ?_, hst'⟩
    show stars [blk b3 100 (fnc W32 64 (pfx (sch b) (fun _ => 0) 0)), blk b2 100 (List.replicate 64 (.int .u32 0))] w' F'
    rw [pfx_zero, fnc_const]
    exact hF'
  · intro k u
    refine gc_pureR (fun hk => ?_)
    replace hk : k ≤ 16 := hk
    refine gsr ?_
    refine gp zlt ?_
    refine gnt ?_
    refine gc_seq ?_
    refine gif rfl (fun hc11 => ?_) (fun hc11 => ?_)
    · have hk' : k < 16 := by (try simp only at hc11); omega
      refine gc_skip ?_
      refine gx_then ?_
      refine gc_seq ?_
      refine gc_block ?_
      refine gsr ?_
      refine gp zmv ?_
      refine gp zas ?_
      refine gnt ?_
      refine gc_regionT 35 (by kernel_rfl) (by kernel_rfl) ?_
      refine sp zmv ?_
      refine sp zmv ?_
      refine sp zmv ?_
      refine sp zml ?_
      refine sp (r_indexAddr_slice rfl rfl Ty.sl_32 Ty.sz_5 (by omega) (by omega)) ?_
      refine sp (r_ld1o rfl Ty.row_5 (cellb hra (j := 4 * k) (by omega) (by omega)) hA) ?_
      refine sp (r_conv8w rfl Ty.un_5 Ty.un_93) ?_
      refine sp (r_shlw (j := 24) rfl rfl rfl (by decide)) ?_
      refine sp zmv ?_
      refine sp zmv ?_
      refine sp zml ?_
      refine sp zad ?_
      refine sp (r_indexAddr_slice rfl rfl Ty.sl_32 Ty.sz_5 (by omega) (by omega)) ?_
      refine sp (r_ld1o rfl Ty.row_5 (cellb hra (j := 4 * k + 1) (by omega) (by omega)) hA) ?_
      refine sp (r_conv8w rfl Ty.un_5 Ty.un_93) ?_
      refine sp (r_shlw (j := 16) rfl rfl rfl (by decide)) ?_
      refine sp zwo ?_
      refine sp zmv ?_
      refine sp zmv ?_
      refine sp zml ?_
      refine sp zad ?_
      refine sp (r_indexAddr_slice rfl rfl Ty.sl_32 Ty.sz_5 (by omega) (by omega)) ?_
      refine sp (r_ld1o rfl Ty.row_5 (cellb hra (j := 4 * k + 2) (by omega) (by omega)) hA) ?_
      refine sp (r_conv8w rfl Ty.un_5 Ty.un_93) ?_
      refine sp (r_shlw (j := 8) rfl rfl rfl (by decide)) ?_
      refine sp zwo ?_
      refine sp zmv ?_
      refine sp zmv ?_
      refine sp zml ?_
      refine sp zad ?_
      refine sp (r_indexAddr_slice rfl rfl Ty.sl_32 Ty.sz_5 (by omega) (by omega)) ?_
      refine sp (r_ld1o rfl Ty.row_5 (cellb hra (j := 4 * k + 3) (by omega) (by omega)) hA) ?_
      refine sp (r_conv8w rfl Ty.un_5 Ty.un_93) ?_
      refine sp zwo ?_
      refine sp (r_indexAddr_arr rfl rfl Ty.arr_100 Ty.sz_93 (by omega) (by omega)) ?_
      refine gs_nil ?_
      refine gl_store1 (wt0 rfl) rfl rfl rfl Ty.sz_93 (by repeat (first | exact Pick.here | apply Pick.there)) (by rw [fnc_length]; omega) (pfx_set (k := k) (by omega) (by omega) (congrArg W32 (sch_lo hk').symm)) ?_
      refine gl_nil ?_
      refine gx_block_normal ?_
      refine gx_then ?_
      refine gc_region ?_
      refine gp zad ?_
      refine gp zmv ?_
      refine gl_nil ?_
      refine zrd (k + 1) ?_ ?_
      · show 16 - (k + 1) < 16 - k
        omega
      · rintro w' hw
        obtain ⟨F', hF', hst'⟩ := hw.sel (M := [blk b3 100 _, blk b2 100 _]) (by repeat (first | exact Sel.nil | (apply Sel.cons; · (repeat (first | exact Pick.here | apply Pick.there)))))
        exact ⟨F', stars_pure_mk (show k + 1 ≤ 16 by omega) hF', hst'⟩
    · have hk' : k = 16 := by (try simp only at hc11); omega
      subst hk'
      refine gc_exit ?_
      refine gx_then_exit ?_
      refine gx_round_exit ?_
      refine gx_block_hit ?_
      refine gx_then ?_
      refine gc_seq ?_
      refine gsr ?_
      refine gp zas ?_
      refine gnt ?_
      refine gc_block ?_
      refine gc_loop (α := Nat) (fun k => [pureR (16 ≤ k ∧ k ≤ 64), blk b3 100 (fnc W32 64 (pfx (sch b) (fun _ => 0) k)), blk b2 100 (List.replicate 64 (.int .u32 0))]) (fun k => [(5, .int .i64 (k : Int))]) [6, 7, 8, 9, 49, 50, 51, 52, 53, 54, 55, 56, 57, 58, 59, 60, 61, 62, 63, 64, 65, 66, 67, 68, 69, 70, 71, 72, 73, 74, 75, 76, 77, 78, 79, 80, 81, 82, 83, 84, 85, 86, 87, 88, 89, 90, 91] (fun k => 64 - k) 16 ?_ ?_ ?_
      · refine env_start (by kernel_rfl)
      · rintro w' hw
        obtain ⟨F', hF', hst'⟩ := hw.sel (M := [blk b3 100 _, blk b2 100 _]) (by repeat (first | exact Sel.nil | (apply Sel.cons; · (repeat (first | exact Pick.here | apply Pick.there)))))
        exact ⟨F', stars_pure_mk (by decide) hF', hst'⟩
      · intro k u
        refine gc_pureR (fun hk => ?_)
        replace hk : 16 ≤ k ∧ k ≤ 64 := hk
        refine gc_seq ?_
        refine gsr ?_
        refine gp zmv ?_
        refine gp zlt ?_
        refine gnt ?_
        refine gif rfl (fun hc50 => ?_) (fun hc50 => ?_)
        · have hk' : k < 64 := by (try simp only at hc50); omega
          refine gc_skip ?_
          refine gx_then ?_
          refine gc_seq ?_
          refine gc_block ?_
          refine gc_seq ?_
          refine gc_regionS (by kernel_rfl) (by kernel_rfl) ?_
          refine sp zmv ?_
          refine sp zsb ?_
          refine sp (r_indexAddr_arr rfl rfl Ty.arr_100 Ty.sz_93 (by omega) (by omega)) ?_
          refine sp (r_ld1 (v := W32 ((sch b) (k - 15))) rfl Ty.row_93 (by repeat (first | exact Pick.here | apply Pick.there)) (pfx_get (by omega) (by omega) (by omega))) ?_
          refine sp zmv ?_
          refine sp zsb ?_
          refine sp (r_indexAddr_arr rfl rfl Ty.arr_100 Ty.sz_93 (by omega) (by omega)) ?_
          refine sp (r_ld1 (v := W32 ((sch b) (k - 2))) rfl Ty.row_93 (by repeat (first | exact Pick.here | apply Pick.there)) (pfx_get (by omega) (by omega) (by omega))) ?_
          refine sp zas ?_
          refine sp zas ?_
          refine gs_nil ?_
          refine gx_then ?_
          refine gsr ?_
          refine gp zmv ?_
          refine zc (fun _ => ?_) (c := fun w1 F1 F2 h1 h2 hd hst => rot_ok (n := 7) h1 (by decide) (by decide))
          refine gp zmv ?_
          refine zc (fun _ => ?_) (c := fun w1 F1 F2 h1 h2 hd hst => rot_ok (n := 18) h1 (by decide) (by decide))
          refine gp zwx ?_
          refine gp zmv ?_
          refine gp (r_shrw (j := 3) rfl rfl rfl (by decide)) ?_
          refine gp zwx ?_
          refine gp zas ?_
          refine gnt ?_
          refine gsr ?_
          refine gp zmv ?_
          refine zc (fun _ => ?_) (c := fun w1 F1 F2 h1 h2 hd hst => rot_ok (n := 17) h1 (by decide) (by decide))
          refine gp zmv ?_
          refine zc (fun _ => ?_) (c := fun w1 F1 F2 h1 h2 hd hst => rot_ok (n := 19) h1 (by decide) (by decide))
          refine gp zwx ?_
          refine gp zmv ?_
          refine gp (r_shrw (j := 10) rfl rfl rfl (by decide)) ?_
          refine gp zwx ?_
          refine gp zas ?_
          refine gnt ?_
          refine gc_regionT 15 (by kernel_rfl) (by kernel_rfl) ?_
          refine sp zmv ?_
          refine sp zmv ?_
          refine sp zsb ?_
          refine sp (r_indexAddr_arr rfl rfl Ty.arr_100 Ty.sz_93 (by omega) (by omega)) ?_
          refine sp (r_ld1 (v := W32 ((sch b) (k - 16))) rfl Ty.row_93 (by repeat (first | exact Pick.here | apply Pick.there)) (pfx_get (by omega) (by omega) (by omega))) ?_
          refine sp zmv ?_
          refine sp zwa ?_
          refine sp zmv ?_
          refine sp zsb ?_
          refine sp (r_indexAddr_arr rfl rfl Ty.arr_100 Ty.sz_93 (by omega) (by omega)) ?_
          refine sp (r_ld1 (v := W32 ((sch b) (k - 7))) rfl Ty.row_93 (by repeat (first | exact Pick.here | apply Pick.there)) (pfx_get (by omega) (by omega) (by omega))) ?_
          refine sp zwa ?_
          refine sp zmv ?_
          refine sp zwa ?_
          refine sp (r_indexAddr_arr rfl rfl Ty.arr_100 Ty.sz_93 (by omega) (by omega)) ?_
          refine gs_nil ?_
          refine gl_store1 (wt0 rfl) rfl rfl rfl Ty.sz_93 (by repeat (first | exact Pick.here | apply Pick.there)) (by rw [fnc_length]; omega) (pfx_set (k := k) (by omega) (by omega) (congrArg W32 (sch_hi hk.1).symm)) ?_
          refine gl_nil ?_
          refine gx_block_normal ?_
          refine gx_then ?_
          refine gc_region ?_
          refine gp zmv ?_
          refine gp zad ?_
          refine gp zas ?_
          refine gl_nil ?_
          refine zrd (k + 1) ?_ ?_
          · show 64 - (k + 1) < 64 - k
            omega
          · rintro w' hw
            obtain ⟨F', hF', hst'⟩ := hw.sel (M := [blk b3 100 _, blk b2 100 _]) (by repeat (first | exact Sel.nil | (apply Sel.cons; · (repeat (first | exact Pick.here | apply Pick.there)))))
            exact ⟨F', stars_pure_mk (show 16 ≤ k + 1 ∧ k + 1 ≤ 64 by omega) hF', hst'⟩
        · have hk' : k = 64 := by (try simp only at hc50); omega
          subst hk'
          refine gc_exit ?_
          refine gx_then_exit ?_
          refine gx_round_exit ?_
          refine gx_block_hit ?_
          refine gx_then ?_
          refine gsr ?_
          refine gp (r_ldN rfl Ty.row_100 Ty.sz_100 (by repeat (first | exact Pick.here | apply Pick.there)) (seg_all fnc_length) fnc_length) ?_
          refine gl_storeN (wt0 rfl) rfl rfl Ty.sz_100 fnc_length (by repeat (first | exact Pick.here | apply Pick.there)) (by simp) (fnc_one fun _ => rfl) (updL_all (by simp [fnc_length])) ?_
          refine gnt ?_
          refine gc_ret ?_
          refine gx_retc rfl rfl (ld_aggS Ty.row_100 Ty.sz_100 (by repeat (first | exact Pick.here | apply Pick.there)) (seg_all fnc_length) fnc_length) ?_
          rw [pfx_full]
          exact ze ()

end Go.Proofs.YtffkjjakceojfaaDoor

/- Walks, by program (wg.py) out of a spec. -/
namespace Go.Proofs.YtffkjjakceojfaaDoor
open Go
set_option linter.unusedVariables false
set_option linter.unusedSimpArgs false


theorem V8.add_get (x y : V8) (k : Nat) : (x.add y).get k = x.get k + y.get k := by
  unfold V8.get V8.add; split <;> rfl
theorem v8c_length (v : V8) : (v8c v).length = 8 := rfl
instance {v : V8} : Len (v8c v) 8 := ⟨v8c_length v⟩
theorem v8c_one (v : V8) : ∀ u ∈ v8c v, u.oneCell' = true := fun u hu => fnc_one (V := W32) (m := 8) (f := v.get) (fun _ => rfl) u hu

attribute [local irreducible] Gl Gc Gx Gs Runs Wt

set_option maxHeartbeats 400000 in
theorem take_ok {w : World} {F : Nat → Prop} {g T : Nat} {v : V8} {tl : List Value} (h : stars [blk g T (v8c v ++ tl)] w F) (hK : KR w (fun k => ¬ F k)) {b : List UInt8} {a : Option Addr} {c : Nat} (hx : RdRow w (fun k => ¬ F k) 1 a 64 (b.map B8))  :
    Calls Tryd.prog 48 #[.pointer (some ⟨g, 0, none⟩), .slice a 64 c] w (Post w F (fun _ : Unit => .tuple #[]) (fun _ => [blk g T (v8c (take64 Kc v b) ++ tl)])) := by
  refine g_enter (env := [(0, .pointer (some ⟨g, 0, none⟩)), (1, .slice a 64 c)]) Tryd.func48 rfl h Tryd.ntmps48 rfl rfl ?_
  refine gsr ?_
  refine gp zmv ?_
  refine zc (fun _ => ?_) (c := fun w1 F1 F2 h1 h2 hd hst => schedule_ok h1 (hx.mv hst.still))
  refine zal fun b4 => ?_
  refine gl_storeN (wt0 rfl) rfl rfl Ty.sz_100 fnc_length (by repeat (first | exact Pick.here | apply Pick.there)) (by simp) (fnc_one fun _ => rfl) (updL_all (by simp [fnc_length])) ?_
  refine gnt ?_
  refine gc_seq ?_
  refine gc_regionS (by kernel_rfl) (by kernel_rfl) ?_
  refine sp zmv ?_
  refine sp znc ?_
  refine sp (r_indexAddr_arr rfl rfl Ty.arr_95 Ty.sz_93 (by decide) (by decide)) ?_
  refine sp zl ?_
  refine sp zmv ?_
  refine sp znc ?_
  refine sp (r_indexAddr_arr rfl rfl Ty.arr_95 Ty.sz_93 (by decide) (by decide)) ?_
  refine sp zl ?_
  refine sp zmv ?_
  refine sp znc ?_
  refine sp (r_indexAddr_arr rfl rfl Ty.arr_95 Ty.sz_93 (by decide) (by decide)) ?_
  refine sp zl ?_
  refine sp zmv ?_
  refine sp znc ?_
  refine sp (r_indexAddr_arr rfl rfl Ty.arr_95 Ty.sz_93 (by decide) (by decide)) ?_
  refine sp zl ?_
  refine sp zas ?_
  refine sp zas ?_
  refine sp zas ?_
  refine sp zas ?_
  refine gs_nil ?_
  refine gx_then ?_
  refine gc_seq ?_
  refine gc_regionS (by kernel_rfl) (by kernel_rfl) ?_
  refine sp zmv ?_
  refine sp znc ?_
  refine sp (r_indexAddr_arr rfl rfl Ty.arr_95 Ty.sz_93 (by decide) (by decide)) ?_
  refine sp zl ?_
  refine sp zmv ?_
  refine sp znc ?_
  refine sp (r_indexAddr_arr rfl rfl Ty.arr_95 Ty.sz_93 (by decide) (by decide)) ?_
  refine sp zl ?_
  refine sp zmv ?_
  refine sp znc ?_
  refine sp (r_indexAddr_arr rfl rfl Ty.arr_95 Ty.sz_93 (by decide) (by decide)) ?_
  refine sp zl ?_
  refine sp zmv ?_
  refine sp znc ?_
  refine sp (r_indexAddr_arr rfl rfl Ty.arr_95 Ty.sz_93 (by decide) (by decide)) ?_
  refine sp zl ?_
  refine sp zas ?_
  refine sp zas ?_
  refine sp zas ?_
  refine sp zas ?_
  refine gs_nil ?_
  refine gx_then ?_
  refine gc_seq ?_
  refine gsr ?_
  refine gp zmv ?_
  refine gnt ?_
  refine gc_block ?_
  refine gc_loop (α := Nat) (fun k => [pureR (k ≤ 64), blk b4 100 (fnc W32 64 (sch b)), blk g T (v8c v ++ tl)]) (fun k => [(54, .int .i64 (k : Int)), (5, W32 (rnds Kc (sch b) v k).a), (9, W32 (rnds Kc (sch b) v k).b), (6, W32 (rnds Kc (sch b) v k).c), (10, W32 (rnds Kc (sch b) v k).d), (7, W32 (rnds Kc (sch b) v k).e), (11, W32 (rnds Kc (sch b) v k).f), (8, W32 (rnds Kc (sch b) v k).g), (12, W32 (rnds Kc (sch b) v k).h)]) [13, 14, 15, 16, 17, 55, 56, 57, 58, 59, 60, 61, 62, 63, 64, 65, 66, 67, 68, 69, 70, 71, 72, 73, 74, 75, 76, 77, 78, 79, 80, 81, 82, 83, 84, 85, 86, 87, 88, 89, 90, 91, 92, 93, 94, 95, 96, 97, 98, 99, 100, 101, 102, 103, 104, 105, 106, 107, 108, 109, 110, 111, 112, 113, 114, 115, 116, 117, 118] (fun k => 64 - k) 0 ?_ ?_ ?_
  · refine env_start (by kernel_rfl)
  · rintro w' hw
    obtain ⟨F', hF', hst'⟩ := hw.sel (M := [blk b4 100 _, blk g T _]) (by repeat (first | exact Sel.nil | (apply Sel.cons; · (repeat (first | exact Pick.here | apply Pick.there)))))
    exact ⟨F', stars_pure_mk (Nat.zero_le _) hF', hst'⟩
  · intro k u
    refine gc_pureR (fun hk => ?_)
    replace hk : k ≤ 64 := hk
    refine gsr ?_
    refine gp zlt ?_
    refine gnt ?_
    refine gc_seq ?_
    refine gif rfl (fun hc55 => ?_) (fun hc55 => ?_)
    · have hk' : k < 64 := by (try simp only at hc55); omega
      refine gc_skip ?_
      refine gx_then ?_
      refine gc_seq ?_
      refine gc_block ?_
      refine gsr ?_
      refine gp zmv ?_
      refine gp zas ?_
      refine gnt ?_
      refine gsr ?_
      refine gp zmv ?_
      refine zc (fun _ => ?_) (c := fun w1 F1 F2 h1 h2 hd hst => rot_ok (n := 6) h1 (by decide) (by decide))
      refine gp zmv ?_
      refine zc (fun _ => ?_) (c := fun w1 F1 F2 h1 h2 hd hst => rot_ok (n := 11) h1 (by decide) (by decide))
      refine gp zwx ?_
      refine gp zmv ?_
      refine zc (fun _ => ?_) (c := fun w1 F1 F2 h1 h2 hd hst => rot_ok (n := 25) h1 (by decide) (by decide))
      refine gp zwx ?_
      refine gp zas ?_
      refine gnt ?_
      refine gc_seq ?_
      refine gc_regionS (by kernel_rfl) (by kernel_rfl) ?_
      refine sp zmv ?_
      refine sp zmv ?_
      refine sp zwa ?_
      refine sp zmv ?_
      refine sp zmv ?_
      refine sp zwn ?_
      refine sp zmv ?_
      refine sp zwc ?_
      refine sp zmv ?_
      refine sp zwn ?_
      refine sp zwx ?_
      refine sp zwa ?_
      refine sp zmv ?_
      refine sp (r_indexAddr_arr rfl rfl Ty.arr_100 Ty.sz_93 (by omega) (by omega)) ?_
      refine sp (r_ld1o rfl Ty.row_93 (hK.at (i := k) (by omega) hk') hK.n) ?_
      refine sp zwa ?_
      refine sp zmv ?_
      refine sp (r_indexAddr_arr rfl rfl Ty.arr_100 Ty.sz_93 (by omega) (by omega)) ?_
      refine sp (r_ld1 (v := W32 (sch b k)) rfl Ty.row_93 (by repeat (first | exact Pick.here | apply Pick.there)) (by rw [show 0 + (k : Int).toNat * 1 = k by omega]; exact fnc_get hk')) ?_
      refine sp zwa ?_
      refine sp zas ?_
      refine gs_nil ?_
      refine gx_then ?_
      refine gsr ?_
      refine gp zmv ?_
      refine zc (fun _ => ?_) (c := fun w1 F1 F2 h1 h2 hd hst => rot_ok (n := 2) h1 (by decide) (by decide))
      refine gp zmv ?_
      refine zc (fun _ => ?_) (c := fun w1 F1 F2 h1 h2 hd hst => rot_ok (n := 13) h1 (by decide) (by decide))
      refine gp zwx ?_
      refine gp zmv ?_
      refine zc (fun _ => ?_) (c := fun w1 F1 F2 h1 h2 hd hst => rot_ok (n := 22) h1 (by decide) (by decide))
      refine gp zwx ?_
      refine gp zas ?_
      refine gnt ?_
      refine gsr ?_
      refine gp zmv ?_
      refine gp zmv ?_
      refine gp zmv ?_
      refine gp zwn ?_
      refine gp zmv ?_
      refine gp zmv ?_
      refine gp zwn ?_
      refine gp zwx ?_
      refine gp zmv ?_
      refine gp zmv ?_
      refine gp zwn ?_
      refine gp zwx ?_
      refine gp zwa ?_
      refine gp zas ?_
      refine gnt ?_
      refine gc_region ?_
      refine gp zmv ?_
      refine gp zmv ?_
      refine gp zmv ?_
      refine gp zmv ?_
      refine gp zmv ?_
      refine gp zwa ?_
      refine gp zmv ?_
      refine gp zmv ?_
      refine gp zmv ?_
      refine gp zmv ?_
      refine gp zmv ?_
      refine gp zwa ?_
      refine gp zas ?_
      refine gp zas ?_
      refine gp zas ?_
      refine gp zas ?_
      refine gp zas ?_
      refine gp zas ?_
      refine gp zas ?_
      refine gp zas ?_
      refine gl_nil ?_
      refine gx_block_normal ?_
      refine gx_then ?_
      refine gc_region ?_
      refine gp zad ?_
      refine gp zmv ?_
      refine gl_nil ?_
      refine zrd (k + 1) ?_ ?_
      · show 64 - (k + 1) < 64 - k
        omega
      · rintro w' hw
        obtain ⟨F', hF', hst'⟩ := hw.sel (M := [blk b4 100 _, blk g T _]) (by repeat (first | exact Sel.nil | (apply Sel.cons; · (repeat (first | exact Pick.here | apply Pick.there)))))
        exact ⟨F', stars_pure_mk (show k + 1 ≤ 64 by omega) hF', hst'⟩
    · have hk' : k = 64 := by (try simp only at hc55); omega
      subst hk'
      refine gc_exit ?_
      refine gx_then_exit ?_
      refine gx_round_exit ?_
      refine gx_block_hit ?_
      refine gx_then ?_
      refine gsr ?_
      refine gp zmv ?_
      refine gp zmv ?_
      refine gp zmv ?_
      refine gp zmv ?_
      refine gp zmv ?_
      refine gp zmv ?_
      refine gp zmv ?_
      refine gp zmv ?_
      refine gp zba ?_
      refine gp zmv ?_
      refine gnt ?_
      refine gc_block ?_
      generalize hV : rnds Kc (sch b) v 64 = V
      refine gc_loop (α := Nat) (fun k => [pureR (k ≤ 8), blk g T (fnc W32 8 (pfx (v.add V).get v.get k) ++ tl)]) (fun k => [(128, .int .i64 (k : Int))]) [18, 19, 129, 130, 131, 132, 133, 134, 135, 136, 137, 138, 139, 140, 141] (fun k => 8 - k) 0 ?_ ?_ ?_
      · refine env_start (by kernel_rfl)
      · rintro w' hw
        obtain ⟨F', hF', hst'⟩ := hw.sel (M := [blk g T _]) (by repeat (first | exact Sel.nil | (apply Sel.cons; · (repeat (first | exact Pick.here | apply Pick.there)))))
        refine ⟨F', stars_pure_mk (Nat.zero_le _) ?_, hst'⟩
        show stars [blk g T (fnc W32 8 (pfx (v.add V).get v.get 0) ++ tl)] w' F'
        rw [pfx_zero]
        exact hF'
      · intro k u
        refine gc_pureR (fun hk => ?_)
        replace hk : k ≤ 8 := hk
        refine gsr ?_
        refine gp zlt ?_
        refine gnt ?_
        refine gc_seq ?_
        refine gif rfl (fun hc129 => ?_) (fun hc129 => ?_)
        · have hk' : k < 8 := by (try simp only at hc129); omega
          refine gc_skip ?_
          refine gx_then ?_
          refine gc_seq ?_
          refine gc_block ?_
          refine gsr ?_
          refine gp zmv ?_
          refine gp (r_index1 (cs := fnc W32 8 V.get) (v := W32 (V.get k)) rfl rfl Ty.arr_94 Ty.sz_93 Ty.row_93 (by omega) (by omega) (by rw [show (k : Int).toNat * 1 = k by omega]; exact fnc_get hk')) ?_
          refine gp zas ?_
          refine gp zas ?_
          refine gnt ?_
          refine gc_regionT 9 (by kernel_rfl) (by kernel_rfl) ?_
          refine sp zmv ?_
          refine sp zmv ?_
          refine sp znc ?_
          refine sp (r_indexAddr_arr rfl rfl Ty.arr_95 Ty.sz_93 (by omega) (by omega)) ?_
          refine sp (r_ld1 (v := W32 (v.get k)) rfl Ty.row_93 (by repeat (first | exact Pick.here | apply Pick.there)) (get_left (pfx_get2 (by omega) (by omega) (by omega)))) ?_
          refine sp zmv ?_
          refine sp zwa ?_
          refine sp znc ?_
          refine sp (r_indexAddr_arr rfl rfl Ty.arr_95 Ty.sz_93 (by omega) (by omega)) ?_
          refine gs_nil ?_
          refine gl_store1 (wt0 rfl) rfl rfl rfl Ty.sz_93 (by repeat (first | exact Pick.here | apply Pick.there)) (by rw [List.length_append, fnc_length]; omega) ((updL_left (by rw [fnc_length]; simp; omega)).trans (congrArg (· ++ tl) (pfx_set (k := k) (by omega) (by omega) (congrArg W32 (V8.add_get _ _ _).symm)))) ?_
          refine gl_nil ?_
          refine gx_block_normal ?_
          refine gx_then ?_
          refine gc_region ?_
          refine gp zad ?_
          refine gp zmv ?_
          refine gl_nil ?_
          refine zrd (k + 1) ?_ ?_
          · show 8 - (k + 1) < 8 - k
            omega
          · rintro w' hw
            obtain ⟨F', hF', hst'⟩ := hw.sel (M := [blk g T _]) (by repeat (first | exact Sel.nil | (apply Sel.cons; · (repeat (first | exact Pick.here | apply Pick.there)))))
            exact ⟨F', stars_pure_mk (show k + 1 ≤ 8 by omega) hF', hst'⟩
        · have hk' : k = 8 := by (try simp only at hc129); omega
          subst hk'
          refine gc_exit ?_
          refine gx_then_exit ?_
          refine gx_round_exit ?_
          refine gx_block_hit ?_
          refine gx_ret0' rfl ?_
          have e : v8c (take64 Kc v b) = fnc W32 8 (pfx (v.add V).get v.get 8) := by rw [pfx_full, ← hV]; rfl
          rw [e]
          exact ze ()

end Go.Proofs.YtffkjjakceojfaaDoor

/- Walks, by program (wg.py) out of a spec. -/
namespace Go.Proofs.YtffkjjakceojfaaDoor
open Go
set_option linter.unusedVariables false
set_option linter.unusedSimpArgs false


def HashR (g : Nat) (s : HS) : Res := exR fun p : Option Addr × Nat => allR [blk g 99 (v8c s.v ++ [.slice p.1 s.rest.length p.2, .int .u64 (s.len : Int)]), rowR 5 1 p.1 s.rest.length p.2 (s.rest.map B8)]
theorem h_open {g : Nat} {s : HS} {L : List Res} {w : World} {F : Nat → Prop} (h : stars (HashR g s :: L) w F) :
    ∃ a c, stars (blk g 99 (v8c s.v ++ [.slice a s.rest.length c, .int .u64 (s.len : Int)]) :: rowR 5 1 a s.rest.length c (s.rest.map B8) :: L) w F := by
  obtain ⟨⟨a, c⟩, h⟩ := stars_ex h
  exact ⟨a, c, stars_all h⟩
theorem St.hash {w0 w : World} {F0 : Nat → Prop} {g m c : Nat} {a : Option Addr} {v : V8} {l : Nat} {s : HS} {L : List Res} {xs : List Value}
    (h : St w0 F0 (blk g 99 (v8c v ++ [.slice a m c, .int .u64 (l : Int)]) :: rowR 5 1 a m c xs :: L) w) (hv : v = s.v) (hr : xs = s.rest.map B8) (hm : m = s.rest.length) (hl : l = s.len) : St w0 F0 (HashR g s :: L) w := by
  subst hv; subst hr; subst hl; subst hm
  obtain ⟨F, hF, hst⟩ := h
  exact ⟨F, stars_ex_mk (a, c) (stars_all_mk hF), hst⟩
theorem h_new {w0 w : World} {F0 : Nat → Prop} {g : Nat} (h : St w0 F0 [blk g 99 (v8c v0 ++ [.slice none 0 0, .int .u64 0])] w) : St w0 F0 [HashR g hs0] w := by
  obtain ⟨F, hF, hst⟩ := h
  have h1 : St w0 F0 [rowR 5 1 none 0 0 [], blk g 99 (v8c v0 ++ [.slice none 0 0, .int .u64 0])] w := ⟨F, stars_row_nil hF, hst⟩
  exact St.hash (l := 0) (h1.sel (M := [blk g 99 (v8c v0 ++ [.slice none 0 0, .int .u64 ((0 : Nat) : Int)]), rowR 5 1 none 0 0 []]) (by repeat (first | exact Sel.nil | (apply Sel.cons; · (repeat (first | exact Pick.here | apply Pick.there)))))) rfl rfl rfl rfl

attribute [local irreducible] Gl Gc Gx Gs Runs Wt

set_option maxHeartbeats 400000 in
theorem begin_ok {w : World} {F : Nat → Prop} (h : stars [] w F) :
    Calls Tryd.prog 47 #[] w (Post w F (fun _ : Unit => .agg (v8c v0).toArray) (fun _ => [])) := by
  refine g_enter (env := []) Tryd.func47 rfl h Tryd.ntmps47 rfl rfl ?_
  refine gsr ?_
  refine zal fun b0 => ?_
  refine gnt ?_
  refine gsr ?_
  refine gp zba ?_
  refine zsN ?_
  refine gnt ?_
  refine gc_ret ?_
  refine gx_retc rfl rfl (ld_aggS Ty.row_95 Ty.sz_95 (by repeat (first | exact Pick.here | apply Pick.there)) (by (simp only [List.drop_succ_cons, List.drop_zero, List.take_succ_cons, List.take_zero, List.cons_append, List.nil_append, List.append_assoc, drop_dc, drop_dc', take_dc, take_dc', drop_L, drop_L', take_L, take_L', len_L, Nat.reduceLeDiff, Nat.reduceSub, Nat.reduceAdd, Nat.le_refl, List.length_cons, List.length_append, List.length_nil, dc_length, List.drop_nil, List.take_nil, List.append_nil, List.length_map, List.length_replicate]; first | done | rfl)) (by first | rfl | (simp only [List.drop_succ_cons, List.drop_zero, List.take_succ_cons, List.take_zero, List.cons_append, List.nil_append, List.append_assoc, drop_dc, drop_dc', take_dc, take_dc', drop_L, drop_L', take_L, take_L', len_L, Nat.reduceLeDiff, Nat.reduceSub, Nat.reduceAdd, Nat.le_refl, List.length_cons, List.length_append, List.length_nil, dc_length, List.drop_nil, List.take_nil, List.append_nil, List.length_map, List.length_replicate]; first | done | omega))) ?_
  exact fun w' hw => ⟨(), congrArg (fun l : List Value => Ending.returned (.agg l.toArray)) (by kernel_rfl), hw.sel (by repeat (first | exact Sel.nil | (apply Sel.cons; · (repeat (first | exact Pick.here | apply Pick.there)))))⟩

set_option maxHeartbeats 400000 in
theorem hnew_ok {w : World} {F : Nat → Prop} (h : stars [] w F) :
    Calls Tryd.prog 38 #[] w (Post w F (fun g : Nat => .pointer (some ⟨g, 0, none⟩)) (fun g => [HashR g hs0])) := by
  refine g_enter (env := []) Tryd.func38 rfl h Tryd.ntmps38 rfl rfl ?_
  refine gsr ?_
  refine gp zas ?_
  refine gnt ?_
  refine gsr ?_
  refine zc (fun _ => ?_) (c := fun w1 F1 F2 h1 h2 hd hst => begin_ok h1)
  refine gp zbu ?_
  refine zbN fun b3 => ?_
  refine gp zas ?_
  refine gnt ?_
  refine gc_ret ?_
  refine gx_ret1 rfl (by conv => lhs; whnf) ?_
  exact fun w' hw => ⟨b3, rfl, h_new (hw.sel (by repeat (first | exact Sel.nil | (apply Sel.cons; · (repeat (first | exact Pick.here | apply Pick.there))))))⟩

set_option maxHeartbeats 400000 in
theorem hwrite_ok {w : World} {F : Nat → Prop} {g : Nat} {s : HS} {b : List UInt8} {a : Option Addr} {n c : Nat} (h : stars [HashR g s] w F) (hK : KR w (fun k => ¬ F k)) (hx : RdRow w (fun k => ¬ F k) 1 a n (b.map B8)) (hr : s.rest.length < 64) (hb : s.len + b.length ≤ 1099511627776) :
    Calls Tryd.prog 39 #[.pointer (some ⟨g, 0, none⟩), .slice a n c] w (Post w F (fun _ : Unit => .tuple #[]) (fun _ => [HashR g (hWrite Kc s b)])) := by
  obtain ⟨a0, c0, h'⟩ := h_open h
  have hnb : n = b.length := by have := hx.1; simp at this; omega
  refine g_enter (env := [(0, .pointer (some ⟨g, 0, none⟩)), (1, .slice a n c)]) Tryd.func39 rfl h' Tryd.ntmps39 rfl rfl ?_
  refine gsr ?_
  refine gp zmv ?_
  refine gp znc ?_
  refine gp zfa ?_
  refine gp zl ?_
  refine gp zmv ?_
  refine gp zln ?_
  refine gp (r_int (r_conv_int rfl Ty.un_3 Ty.un_97) (wrap_u64 (by omega) (by omega))) ?_
  refine gp (r_int (r_arith (op := .add) rfl rfl (wrap_u64 (by omega) (by omega))) (show (s.len : Int) + (n : Int) = ((s.len + b.length : Nat) : Int) by omega)) ?_
  refine gp znc ?_
  refine gp zfa ?_
  refine zs1 ?_
  refine gnt ?_
  refine gsr ?_
  refine gp zmv ?_
  refine gp zmv ?_
  refine gp znc ?_
  refine gp zfa ?_
  refine gp zl ?_
  refine gp zmv ?_
  refine gl_append (wt0 rfl) rfl rfl (by repeat (first | exact Pick.here | apply Pick.there)) Ty.el_32 (fun w' hw => hw.rdOld hx) (one_B8 _) (by simp only [maxLen]; omega) (by omega) ?_
  intro a1 c1
  refine gp znc ?_
  refine gp zfa ?_
  refine zs1 ?_
  refine gnt ?_
  refine gc_block ?_
  refine gc_loop (α := V8 × List UInt8 × Option Addr × Nat) (fun x => [pureR (takes Kc x.1 x.2.1 = takes Kc s.v (s.rest ++ b) ∧ x.2.1.length ≤ 1099511627840), blk g 99 (v8c x.1 ++ [.slice x.2.2.1 x.2.1.length x.2.2.2, .int .u64 ((s.len + b.length : Nat) : Int)]), rowR 5 1 x.2.2.1 x.2.1.length x.2.2.2 (x.2.1.map B8)]) (fun x => []) [23, 24, 25, 26, 27, 28, 29, 30, 31, 32, 33, 34, 35, 36, 37, 38, 39, 40, 41, 42, 43, 44, 45] (fun x => x.2.1.length) (s.v, s.rest ++ b, a1, c1) ?_ ?_ ?_
  · refine env_start (by kernel_rfl)
  · rintro w' hw
    obtain ⟨F', hF', hst'⟩ := hw.sel (M := [blk g 99 _, rowR 5 1 a1 _ c1 _]) (by repeat (first | exact Sel.nil | (apply Sel.cons; · (repeat (first | exact Pick.here | apply Pick.there)))))
    refine ⟨F', stars_pure_mk ⟨rfl, by simp; omega⟩ ?_, hst'⟩
    show stars [blk g 99 (v8c s.v ++ [.slice a1 (s.rest ++ b).length c1, .int .u64 ((s.len + b.length : Nat) : Int)]), rowR 5 1 a1 (s.rest ++ b).length c1 ((s.rest ++ b).map B8)] w' F'
    rw [List.length_append, List.map_append]
    rw [hnb] at hF'
    exact hF'
  · intro x u
    obtain ⟨v, r, a1, c1⟩ := x
    refine gc_pureR (fun hk => ?_)
    replace hk : takes Kc v r = takes Kc s.v (s.rest ++ b) ∧ r.length ≤ 1099511627840 := hk
    refine gc_fact (p := r.length ≤ c1) (fun w hw => (hw.rowLe (e := 5) (size := 1) (a := a1) (m := r.length) (c := c1) (xs := r.map B8) (by repeat (first | exact Pick.here | apply Pick.there))).1) (fun hc1 => ?_)
    refine gc_seq ?_
    refine gsr ?_
    refine gp zmv ?_
    refine gp znc ?_
    refine gp zfa ?_
    refine gp zl ?_
    refine gp zln ?_
    refine gp zge ?_
    refine gnt ?_
    refine gif rfl (fun hc28 => ?_) (fun hc28 => ?_)
    · have hk' : 64 ≤ r.length := by (try simp only at hc28); omega
      refine gc_skip ?_
      refine gx_then ?_
      refine gc_block ?_
      refine gc_seq ?_
      refine gc_regionT 8 (by kernel_rfl) (by kernel_rfl) ?_
      refine sp zmv ?_
      refine sp znc ?_
      refine sp zfa ?_
      refine sp zmv ?_
      refine sp znc ?_
      refine sp zfa ?_
      refine sp zl ?_
      refine sp (r_slice_slice (a := a1) (m := r.length) (c := c1) (l := 0) (h := 64) rfl Ty.sl_32 Ty.sz_5 rfl ⟨_, rfl⟩ (by omega) (by omega)) ?_
      refine gs_nil ?_
      refine zc (fun _ => ?_) (c := fun w1 F1 F2 h1 h2 hd hst => take_ok (tl := [.slice a1 r.length c1, .int .u64 ((s.len + b.length : Nat) : Int)]) h1 (hK.mv hst.still) ((rd_row h2 hd (by repeat (first | exact Pick.here | apply Pick.there))).cut8 (l := 0) (h := 64) (by omega) hk' hc1))
      refine gnt ?_
      refine gc_region ?_
      refine gp zmv ?_
      refine gp zmv ?_
      refine gp znc ?_
      refine gp zfa ?_
      refine gp zl ?_
      refine gp (r_slice_slice (a := a1) (m := r.length) (c := c1) (l := 64) (h := r.length) rfl Ty.sl_32 Ty.sz_5 ⟨_, rfl⟩ rfl (by omega) (by omega)) ?_
      refine gp znc ?_
      refine gp zfa ?_
      refine zs1 ?_
      refine gl_nil ?_
      refine gx_block_normal ?_
      refine zrd ((take64 Kc v (r.take 64), r.drop 64, (if c1 = 64 then a1 else a1.map (·.add (64 * 1))), c1 - 64)) ?_ ?_
      · show (r.drop 64).length < r.length
        rw [List.length_drop]
        omega
      · rintro w' hw
        obtain ⟨F', hF', hst'⟩ := hw.sel (M := [rowR 5 1 a1 r.length c1 (r.map B8), blk g 99 _]) (by repeat (first | exact Sel.nil | (apply Sel.cons; · (repeat (first | exact Pick.here | apply Pick.there)))))
        have h2 : St w F [rowR 5 1 (if c1 = 64 then a1 else a1.map (·.add (64 * 1))) (r.length - 64) (c1 - 64) ((r.drop 64).map B8), blk g 99 _] w' := ⟨F', stars_tail8 (by omega) hF', hst'⟩
        obtain ⟨F2, hF2, hst2⟩ := h2.sel (M := [blk g 99 _, rowR 5 1 _ _ _ ((r.drop 64).map B8)]) (by repeat (first | exact Sel.nil | (apply Sel.cons; · (repeat (first | exact Pick.here | apply Pick.there)))))
        refine ⟨F2, stars_pure_mk ⟨?_, ?_⟩ ?_, hst2⟩
        · rw [← hk.1, takes.eq_1 Kc v r, dif_pos (by omega)]
        · show (r.drop 64).length ≤ _; rw [List.length_drop]; omega
        · show stars [blk g 99 (v8c (take64 Kc v (r.take 64)) ++ [.slice (if c1 = 64 then a1 else a1.map (·.add (64 * 1))) (r.drop 64).length (c1 - 64), .int .u64 ((s.len + b.length : Nat) : Int)]), rowR 5 1 (if c1 = 64 then a1 else a1.map (·.add (64 * 1))) (r.drop 64).length (c1 - 64) ((r.drop 64).map B8)] w' F2
          rw [List.length_drop]; exact hF2
    · have hk' : ¬ 64 ≤ r.length := by (try simp only at hc28); omega
      refine gc_exit ?_
      refine gx_then_exit ?_
      refine gx_round_exit ?_
      refine gx_block_hit ?_
      refine gx_ret0' rfl ?_
      have e : takes Kc s.v (s.rest ++ b) = (v, r) := by rw [← hk.1, takes.eq_1, dif_neg hk']
      exact fun w' hw => ⟨(), rfl, St.hash (s := hWrite Kc s b) (hw.sel (M := [blk g 99 _, rowR 5 1 a1 _ c1 _]) (by repeat (first | exact Sel.nil | (apply Sel.cons; · (repeat (first | exact Pick.here | apply Pick.there)))))) (by simp [hWrite, e]) (by simp [hWrite, e]) (by simp [hWrite, e]) rfl⟩

end Go.Proofs.YtffkjjakceojfaaDoor

/- Walks, by program (wg.py) out of a spec. -/
namespace Go.Proofs.YtffkjjakceojfaaDoor
open Go
set_option linter.unusedVariables false
set_option linter.unusedSimpArgs false


theorem padN_le (m : Nat) : padN m ≤ 63 := by unfold padN; omega
theorem pad_hit {m k : Nat} (h : k ≤ padN m) (hm : m < 64) : (m + 1 + k) % 64 = 56 ↔ k = padN m := by unfold padN at *; omega
theorem fnc_sum (v : V8) : fnc B8 32 (outByte v) = ((List.range 32).map (outByte v)).map B8 := by simp [fnc]
theorem padded_length (s : HS) : (padded s).length = s.rest.length + 1 + padN s.rest.length + 8 := by simp [padded, lenBytes]; omega
theorem takes_nil (K : Nat → UInt32) (v : V8) : takes K v [] = (v, []) := by rw [takes.eq_1, dif_neg (by simp)]
theorem rem_nat {m k : Nat} : Int.tmod (m : Int) (k : Int) = ((m % k : Nat) : Int) := by rw [Int.tmod_eq_emod_of_nonneg (by omega)]; rfl
theorem quo_nat {m k : Nat} : Int.tdiv (m : Int) (k : Int) = ((m / k : Nat) : Int) := by rw [Int.tdiv_eq_ediv_of_nonneg (by omega)]; rfl
def padRow (s : HS) (k : Nat) : List UInt8 := s.rest ++ 128 :: List.replicate k 0
def lenRow (s : HS) (k : Nat) : List UInt8 := s.rest ++ 128 :: (List.replicate (padN s.rest.length) 0 ++ (List.range k).map fun i => UInt8.ofNat (s.len * 8 / 2 ^ (8 * (7 - i))))
theorem padRow_succ (s : HS) (k : Nat) : (padRow s k).map B8 ++ [.int .u8 0] = (padRow s (k + 1)).map B8 := by
  have e : (.int .u8 0 : Value) = B8 0 := rfl
  rw [e]; simp [padRow, List.replicate_succ']
theorem lenRow_zero (s : HS) : lenRow s 0 = padRow s (padN s.rest.length) := by simp [lenRow, padRow]
theorem lenRow_succ (s : HS) (k : Nat) : (lenRow s k).map B8 ++ [B8 (UInt8.ofNat (s.len * 8 / 2 ^ (8 * (7 - k))))] = (lenRow s (k + 1)).map B8 := by simp [lenRow, List.range_succ]
theorem lenRow_full (s : HS) : lenRow s 8 = padded s := rfl

attribute [local irreducible] Gl Gc Gx Gs Runs Wt

set_option maxHeartbeats 400000 in
theorem hsum_ok {w : World} {F : Nat → Prop} {g : Nat} {s : HS} (h : stars [HashR g s] w F) (hK : KR w (fun k => ¬ F k)) (hr : s.rest.length < 64) (hb : s.len ≤ 1099511627776) :
    Calls Tryd.prog 40 #[.pointer (some ⟨g, 0, none⟩)] w (Post w F (fun _ : Unit => .agg (fnc B8 32 (outByte (takes Kc s.v (padded s)).1)).toArray) (fun _ => [HashR g s])) := by
  obtain ⟨a0, c0, h'⟩ := h_open h
  refine g_enter (env := [(0, .pointer (some ⟨g, 0, none⟩))]) Tryd.func40 rfl h' Tryd.ntmps40 rfl rfl ?_
  refine gsr ?_
  refine zal fun b2 => ?_
  refine gnt ?_
  refine gsr ?_
  refine gp zmv ?_
  refine gp znc ?_
  refine gp zfa ?_
  refine gp zL ?_
  refine zal fun b3 => ?_
  refine gl_storeN (wt0 rfl) (cs' := v8c s.v ++ []) rfl rfl Ty.sz_95 (v8c_length _) (by repeat (first | exact Pick.here | apply Pick.there)) (by simp) (v8c_one _) ((updL_all (by simp [v8c_length])).trans (List.append_nil _).symm) ?_
  refine gnt ?_
  refine gsr ?_
  refine ze0 fun b12 => ?_
  refine gp zmv ?_
  refine gp znc ?_
  refine gp zfa ?_
  refine gp zl ?_
  refine gl_append (wt0 rfl) rfl rfl (by repeat (first | exact Pick.here | apply Pick.there)) Ty.el_32 (fun w' hw => hw.row (a := a0) (m := s.rest.length) (c := c0) (by repeat (first | exact Pick.here | apply Pick.there))) (one_B8 _) (by simp only [maxLen]; omega) (by omega) ?_
  intro a17 c17
  rw [show 0 + s.rest.length = s.rest.length from Nat.zero_add _]
  refine ze1 fun b18 => ?_
  refine gl_append (news := [.int .u8 128]) (wt0 rfl) rfl rfl (by repeat (first | exact Pick.here | apply Pick.there)) Ty.el_32 (fun w' hw => hw.row (m := 1) (xs := [.int .u8 128]) (by repeat (first | exact Pick.here | apply Pick.there))) (all_cons' rfl all_nil') (by simp only [maxLen]; omega) (by omega) ?_
  intro a19 c19
  refine gp zas ?_
  refine gnt ?_
  refine gc_seq ?_
  refine gc_block ?_
  refine gc_loop (α := Nat × Option Addr × Nat) (fun x => [pureR (x.1 ≤ padN s.rest.length), rowR 5 1 x.2.1 (s.rest.length + 1 + x.1) x.2.2 ((padRow s x.1).map B8), blk b3 95 (v8c s.v ++ []), blk b2 80 (List.replicate 32 (.int .u8 0)), blk g 99 (v8c s.v ++ [.slice a0 s.rest.length c0, .int .u64 (s.len : Int)]), rowR 5 1 a0 s.rest.length c0 (s.rest.map B8)]) (fun x => [(4, .slice x.2.1 (s.rest.length + 1 + x.1) x.2.2)]) [20, 21, 22, 23, 24, 25, 26] (fun x => padN s.rest.length - x.1) (0, a19, c19) ?_ ?_ ?_
  · refine env_start (by kernel_rfl)
  · rintro w' hw
    obtain ⟨F', hF', hst'⟩ := hw.sel (M := [rowR 5 1 a19 _ c19 _, blk b3 95 (v8c s.v ++ []), blk b2 80 (List.replicate 32 (.int .u8 0)), blk g 99 (v8c s.v ++ [.slice a0 s.rest.length c0, .int .u64 (s.len : Int)]), rowR 5 1 a0 s.rest.length c0 (s.rest.map B8)]) (by repeat (first | exact Sel.nil | (apply Sel.cons; · (repeat (first | exact Pick.here | apply Pick.there)))))
    refine ⟨F', stars_pure_mk (Nat.zero_le _) ?_, hst'⟩
    have e : ([] ++ s.rest.map B8 ++ [.int .u8 128] : List Value) = (padRow s 0).map B8 := by simp [padRow]
    rw [e] at hF'
    exact hF'
  · intro x u
    obtain ⟨k, a4, c4⟩ := x
    refine gc_pureR (fun hk => ?_)
    replace hk : k ≤ padN s.rest.length := hk
    have hp63 := padN_le s.rest.length
    refine gc_seq ?_
    refine gsr ?_
    refine gp zmv ?_
    refine gp zln ?_
    refine gp (r_int (r_rem rfl rfl (by decide)) (rem_nat (m := s.rest.length + 1 + k) (k := 64))) ?_
    refine gp zni ?_
    refine gnt ?_
    refine gif rfl (fun hc23 => ?_) (fun hc23 => ?_)
    · have hk' : k < padN s.rest.length := by have := pad_hit hk hr; (try simp only at hc23); omega
      refine gc_skip ?_
      refine gx_then ?_
      refine gc_block ?_
      refine gc_region ?_
      refine gp zmv ?_
      refine ze1 fun b25 => ?_
      refine gl_append (news := [.int .u8 0]) (a := a4) (m := s.rest.length + 1 + k) (c := c4) (wt0 rfl) rfl rfl (by repeat (first | exact Pick.here | apply Pick.there)) Ty.el_32 (fun w' hw => hw.row (m := 1) (xs := [.int .u8 0]) (by repeat (first | exact Pick.here | apply Pick.there))) (all_cons' rfl all_nil') (by simp only [maxLen]; omega) (by omega) ?_
      intro a26 c26
      refine gp zas ?_
      refine gl_nil ?_
      refine gx_block_normal ?_
      refine zrd ((k + 1, a26, c26)) ?_ ?_
      · show padN s.rest.length - (k + 1) < padN s.rest.length - k
        omega
      · rintro w' hw
        obtain ⟨F', hF', hst'⟩ := hw.sel (M := [rowR 5 1 a26 _ c26 _, blk b3 95 (v8c s.v ++ []), blk b2 80 (List.replicate 32 (.int .u8 0)), blk g 99 (v8c s.v ++ [.slice a0 s.rest.length c0, .int .u64 (s.len : Int)]), rowR 5 1 a0 s.rest.length c0 (s.rest.map B8)]) (by repeat (first | exact Sel.nil | (apply Sel.cons; · (repeat (first | exact Pick.here | apply Pick.there)))))
        refine ⟨F', stars_pure_mk (show k + 1 ≤ _ by omega) ?_, hst'⟩
        rw [padRow_succ] at hF'
        exact hF'
    · have hk' : k = padN s.rest.length := by have := pad_hit hk hr; (try simp only at hc23); omega
      subst hk'
      refine gc_exit ?_
      refine gx_then_exit ?_
      refine gx_round_exit ?_
      refine gx_block_hit ?_
      refine gx_then ?_
      refine gc_seq ?_
      refine gsr ?_
      refine gp zas ?_
      refine gnt ?_
      refine gc_block ?_
      refine gc_loop (α := Nat × Option Addr × Nat) (fun x => [pureR (x.1 ≤ 8), rowR 5 1 x.2.1 (s.rest.length + 1 + padN s.rest.length + x.1) x.2.2 ((lenRow s x.1).map B8), blk b3 95 (v8c s.v ++ []), blk b2 80 (List.replicate 32 (.int .u8 0)), blk g 99 (v8c s.v ++ [.slice a0 s.rest.length c0, .int .u64 (s.len : Int)]), rowR 5 1 a0 s.rest.length c0 (s.rest.map B8)]) (fun x => [(4, .slice x.2.1 (s.rest.length + 1 + padN s.rest.length + x.1) x.2.2), (5, .int .i64 (7 - (x.1 : Int)))]) [27, 28, 29, 30, 31, 32, 33, 34, 35, 36, 37, 38, 39, 40, 41, 42] (fun x => 8 - x.1) (0, a4, c4) ?_ ?_ ?_
      · refine env_start (by kernel_rfl)
      · rintro w' hw
        obtain ⟨F', hF', hst'⟩ := hw.sel (M := [rowR 5 1 a4 _ c4 _, blk b3 95 (v8c s.v ++ []), blk b2 80 (List.replicate 32 (.int .u8 0)), blk g 99 (v8c s.v ++ [.slice a0 s.rest.length c0, .int .u64 (s.len : Int)]), rowR 5 1 a0 s.rest.length c0 (s.rest.map B8)]) (by repeat (first | exact Sel.nil | (apply Sel.cons; · (repeat (first | exact Pick.here | apply Pick.there)))))
        refine ⟨F', stars_pure_mk (Nat.zero_le _) ?_, hst'⟩
        rw [← lenRow_zero] at hF'
        exact hF'
      · intro x u
        obtain ⟨k, a5, c5⟩ := x
        refine gc_pureR (fun hk => ?_)
        replace hk : k ≤ 8 := hk
        refine gc_seq ?_
        refine gsr ?_
        refine gp zmv ?_
        refine gp zge ?_
        refine gnt ?_
        refine gif rfl (fun hc28 => ?_) (fun hc28 => ?_)
        · have hk' : k < 8 := by (try simp only at hc28); omega
          refine gc_skip ?_
          refine gx_then ?_
          refine gc_seq ?_
          refine gc_block ?_
          refine gc_region ?_
          refine gp zmv ?_
          refine gp zmv ?_
          refine gp znc ?_
          refine gp zfa ?_
          refine gp zl ?_
          refine gp (r_int (r_arith (op := .mul) rfl rfl (wrap_u64 (by omega) (by omega))) (show (s.len : Int) * 8 = ((s.len * 8 : Nat) : Int) by omega)) ?_
          refine gp zmv ?_
          refine gp zml ?_
          refine gp zhr ?_
          refine gp (r_val (r_conv_int rfl Ty.un_97 Ty.un_5) (byte_shrU (j := 7 - k) (by omega) (by omega))) ?_
          refine ze1 fun b41 => ?_
          refine gl_append (news := [B8 (UInt8.ofNat (s.len * 8 / 2 ^ (8 * (7 - k))))]) (a := a5) (m := s.rest.length + 1 + padN s.rest.length + k) (c := c5) (wt0 rfl) rfl rfl (by repeat (first | exact Pick.here | apply Pick.there)) Ty.el_32 (fun w' hw => hw.row (m := 1) (xs := [B8 (UInt8.ofNat (s.len * 8 / 2 ^ (8 * (7 - k))))]) (by repeat (first | exact Pick.here | apply Pick.there))) (all_cons' rfl all_nil') (by simp only [maxLen]; omega) (by omega) ?_
          intro a42 c42
          refine gp zas ?_
          refine gl_nil ?_
          refine gx_block_normal ?_
          refine gx_then ?_
          refine gc_region ?_
          refine gp zmv ?_
          refine gp (r_int (r_arith (op := .sub) rfl rfl (wrap_i64 (by omega) (by omega))) (show 7 - (k : Int) - 1 = 7 - ((k + 1 : Nat) : Int) by omega)) ?_
          refine gp zas ?_
          refine gl_nil ?_
          refine zrd ((k + 1, a42, c42)) ?_ ?_
          · show 8 - (k + 1) < 8 - k
            omega
          · rintro w' hw
            obtain ⟨F', hF', hst'⟩ := hw.sel (M := [rowR 5 1 a42 _ c42 _, blk b3 95 (v8c s.v ++ []), blk b2 80 (List.replicate 32 (.int .u8 0)), blk g 99 (v8c s.v ++ [.slice a0 s.rest.length c0, .int .u64 (s.len : Int)]), rowR 5 1 a0 s.rest.length c0 (s.rest.map B8)]) (by repeat (first | exact Sel.nil | (apply Sel.cons; · (repeat (first | exact Pick.here | apply Pick.there)))))
            refine ⟨F', stars_pure_mk (show k + 1 ≤ _ by omega) ?_, hst'⟩
            rw [lenRow_succ] at hF'
            exact hF'
        · have hk' : k = 8 := by (try simp only at hc28); omega
          subst hk'
          refine gc_exit ?_
          refine gx_then_exit ?_
          refine gx_round_exit ?_
          refine gx_block_hit ?_
          refine gx_then ?_
          refine gc_seq ?_
          refine gc_block ?_
          have hpl := padded_length s
          refine gc_loop (α := V8 × List UInt8 × Option Addr × Nat × Nat) (fun x => [pureR (takes Kc x.1 x.2.1 = takes Kc s.v (padded s) ∧ x.2.1.length % 64 = 0 ∧ x.2.1.length ≤ 256 ∧ x.2.2.2.1 = x.2.1.length), rowR 5 1 x.2.2.1 x.2.2.2.1 x.2.2.2.2 (x.2.1.map B8), blk b3 95 (v8c x.1 ++ []), blk b2 80 (List.replicate 32 (.int .u8 0)), blk g 99 (v8c s.v ++ [.slice a0 s.rest.length c0, .int .u64 (s.len : Int)]), rowR 5 1 a0 s.rest.length c0 (s.rest.map B8)]) (fun x => [(4, .slice x.2.2.1 x.2.2.2.1 x.2.2.2.2)]) [43, 44, 45, 46, 47, 48, 49, 50] (fun x => x.2.1.length) (s.v, padded s, a5, s.rest.length + 1 + padN s.rest.length + 8, c5) ?_ ?_ ?_
          · refine env_start (by kernel_rfl)
          · rintro w' hw
            obtain ⟨F', hF', hst'⟩ := hw.sel (M := [rowR 5 1 a5 _ c5 _, blk b3 95 (v8c s.v ++ []), blk b2 80 (List.replicate 32 (.int .u8 0)), blk g 99 (v8c s.v ++ [.slice a0 s.rest.length c0, .int .u64 (s.len : Int)]), rowR 5 1 a0 s.rest.length c0 (s.rest.map B8)]) (by repeat (first | exact Sel.nil | (apply Sel.cons; · (repeat (first | exact Pick.here | apply Pick.there)))))
            refine ⟨F', stars_pure_mk ⟨rfl, ?_, ?_, hpl.symm⟩ ?_, hst'⟩
            · show (padded s).length % 64 = 0
              have := (pad_hit (Nat.le_refl _) hr).2 rfl
              omega
            · show (padded s).length ≤ 256; omega
            · exact hF'
          · intro x u
            obtain ⟨v, r, a6, n6, c6⟩ := x
            refine gc_pureR (fun hk => ?_)
            replace hk : takes Kc v r = takes Kc s.v (padded s) ∧ r.length % 64 = 0 ∧ r.length ≤ 256 ∧ n6 = r.length := hk
            obtain ⟨hk, hk64, hk256, rfl⟩ := hk
            refine gc_fact (p := r.length ≤ c6) (fun w hw => (hw.rowLe (e := 5) (size := 1) (a := a6) (m := r.length) (c := c6) (xs := r.map B8) (by repeat (first | exact Pick.here | apply Pick.there))).1) (fun hc6 => ?_)
            refine gc_seq ?_
            refine gsr ?_
            refine gp zmv ?_
            refine gp zln ?_
            refine gp zgt ?_
            refine gnt ?_
            refine gif rfl (fun hc45 => ?_) (fun hc45 => ?_)
            · have hk' : 64 ≤ r.length := by (try simp only at hc45); omega
              refine gc_skip ?_
              refine gx_then ?_
              refine gc_block ?_
              refine gsr ?_
              refine gp zmv ?_
              refine gp (r_slice_slice (a := a6) (m := r.length) (c := c6) (l := 0) (h := 64) rfl Ty.sl_32 Ty.sz_5 rfl ⟨_, rfl⟩ (by omega) (by omega)) ?_
              refine zc (fun _ => ?_) (c := fun w1 F1 F2 h1 h2 hd hst => take_ok (tl := []) h1 (hK.mv hst.still) ((rd_row (a := a6) (n := r.length) (c := c6) (xs := r.map B8) h2 hd (by repeat (first | exact Pick.here | apply Pick.there))).cut8 (l := 0) (h := 64) (by omega) hk' hc6))
              refine gnt ?_
              refine gc_region ?_
              refine gp zmv ?_
              refine gp (r_slice_slice (a := a6) (m := r.length) (c := c6) (l := 64) (h := r.length) rfl Ty.sl_32 Ty.sz_5 ⟨_, rfl⟩ rfl (by omega) (by omega)) ?_
              refine gp zas ?_
              refine gl_nil ?_
              refine gx_block_normal ?_
              have hdl : (r.drop 64).length = r.length - 64 := List.length_drop
              refine zrd ((take64 Kc v (r.take 64), r.drop 64, (if c6 = 64 then a6 else a6.map (·.add (64 * 1))), r.length - 64, c6 - 64)) ?_ ?_
              · show (r.drop 64).length < r.length
                omega
              · rintro w' hw
                obtain ⟨F', hF', hst'⟩ := hw.sel (M := [rowR 5 1 a6 r.length c6 (r.map B8), blk b3 95 (v8c (take64 Kc v (r.take 64)) ++ []), blk b2 80 (List.replicate 32 (.int .u8 0)), blk g 99 (v8c s.v ++ [.slice a0 s.rest.length c0, .int .u64 (s.len : Int)]), rowR 5 1 a0 s.rest.length c0 (s.rest.map B8)]) (by repeat (first | exact Sel.nil | (apply Sel.cons; · (repeat (first | exact Pick.here | apply Pick.there)))))
                refine ⟨F', stars_pure_mk ⟨?_, ?_, ?_, hdl.symm⟩ ?_, hst'⟩
                · rw [← hk, takes.eq_1 Kc v r, dif_pos (by omega)]
                · show (r.drop 64).length % 64 = 0; omega
                · show (r.drop 64).length ≤ 256; omega
                · have := stars_tail8 (l := 64) (by omega) hF'
                  exact this
            · have hk' : r = [] := by (try simp only at hc45); exact List.eq_nil_of_length_eq_zero (by omega)
              have hV : (takes Kc s.v (padded s)).1 = v := by rw [← hk, hk', takes_nil]
              rw [hV]
              refine gc_exit ?_
              refine gx_then_exit ?_
              refine gx_round_exit ?_
              refine gx_block_hit ?_
              refine gx_then ?_
              refine gsr ?_
              refine zal fun b6 => ?_
              refine gnt ?_
              refine gc_seq ?_
              refine gsr ?_
              refine gp zmv ?_
              refine gnt ?_
              refine gc_block ?_
              refine gc_loop (α := Nat) (fun k => [pureR (k ≤ 32), blk b6 80 (fnc B8 32 (pfx (outByte v) (fun _ => 0) k)), blk b3 95 (v8c v ++ []), blk b2 80 (List.replicate 32 (.int .u8 0)), blk g 99 (v8c s.v ++ [.slice a0 s.rest.length c0, .int .u64 (s.len : Int)]), rowR 5 1 a0 s.rest.length c0 (s.rest.map B8)]) (fun k => [(51, .int .i64 (k : Int))]) [7, 52, 53, 54, 55, 56, 57, 58, 59, 60, 61, 62, 63, 64, 65, 66] (fun k => 32 - k) 0 ?_ ?_ ?_
              · refine env_start (by kernel_rfl)
              · rintro w' hw
                obtain ⟨F', hF', hst'⟩ := hw.sel (M := [blk b6 80 _, blk b3 95 (v8c v ++ []), blk b2 80 (List.replicate 32 (.int .u8 0)), blk g 99 (v8c s.v ++ [.slice a0 s.rest.length c0, .int .u64 (s.len : Int)]), rowR 5 1 a0 s.rest.length c0 (s.rest.map B8)]) (by repeat (first | exact Sel.nil | (apply Sel.cons; · (repeat (first | exact Pick.here | apply Pick.there)))))
                refine ⟨F', stars_pure_mk (Nat.zero_le _) ?_, hst'⟩
                rw [pfx_zero, fnc_const]
                exact hF'
              · intro k u
                refine gc_pureR (fun hk2 => ?_)
                replace hk2 : k ≤ 32 := hk2
                refine gsr ?_
                refine gp zlt ?_
                refine gnt ?_
                refine gc_seq ?_
                refine gif rfl (fun hc52 => ?_) (fun hc52 => ?_)
                · have hk3 : k < 32 := by (try simp only at hc52); omega
                  refine gc_skip ?_
                  refine gx_then ?_
                  refine gc_seq ?_
                  refine gc_block ?_
                  refine gsr ?_
                  refine gp zmv ?_
                  refine gp zas ?_
                  refine gnt ?_
                  refine gc_region ?_
                  refine gp zmv ?_
                  refine gp zmv ?_
                  refine gp (r_int (r_val (r_quo rfl rfl (by decide)) (congrArg (Value.int .i64) ((congrArg IntKind.i64.wrap (quo_nat (m := k) (k := 4))).trans (wrap_i64 (by omega) (by omega))))) rfl) ?_
                  refine gp (r_indexAddr_arr rfl rfl Ty.arr_95 Ty.sz_93 (by omega) (by omega)) ?_
                  refine gp (r_ld1 (v := W32 (v.get (k / 4))) rfl Ty.row_93 (by repeat (first | exact Pick.here | apply Pick.there)) (by rw [show 0 + ((k / 4 : Nat) : Int).toNat * 1 = k / 4 by omega]; exact get_left (fnc_get (V := W32) (m := 8) (f := v.get) (by omega)))) ?_
                  refine gp zmv ?_
                  refine gp (r_int (r_rem rfl rfl (by decide)) (rem_nat (m := k) (k := 4))) ?_
                  refine gp zml ?_
                  refine gp zsb ?_
                  refine gp (r_shrw (j := 24 - 8 * (k % 4)) rfl rfl (by omega) (by omega)) ?_
                  refine gp (r_convw8 rfl Ty.un_93 Ty.un_5) ?_
                  refine gp (r_indexAddr_arr rfl rfl Ty.arr_80 Ty.sz_5 (by omega) (by omega)) ?_
                  refine gl_store1 (wt0 rfl) rfl rfl rfl Ty.sz_5 (by repeat (first | exact Pick.here | apply Pick.there)) (by rw [fnc_length]; omega) (pfx_set (k := k) (by omega) (by omega) rfl) ?_
                  refine gl_nil ?_
                  refine gx_block_normal ?_
                  refine gx_then ?_
                  refine gc_region ?_
                  refine gp zad ?_
                  refine gp zmv ?_
                  refine gl_nil ?_
                  refine zrd (k + 1) ?_ ?_
                  · show 32 - (k + 1) < 32 - k
                    omega
                  · rintro w' hw
                    obtain ⟨F', hF', hst'⟩ := hw.sel (M := [blk b6 80 _, blk b3 95 (v8c v ++ []), blk b2 80 (List.replicate 32 (.int .u8 0)), blk g 99 (v8c s.v ++ [.slice a0 s.rest.length c0, .int .u64 (s.len : Int)]), rowR 5 1 a0 s.rest.length c0 (s.rest.map B8)]) (by repeat (first | exact Sel.nil | (apply Sel.cons; · (repeat (first | exact Pick.here | apply Pick.there)))))
                    exact ⟨F', stars_pure_mk (show k + 1 ≤ 32 by omega) hF', hst'⟩
                · have hk3 : k = 32 := by (try simp only at hc52); omega
                  subst hk3
                  refine gc_exit ?_
                  refine gx_then_exit ?_
                  refine gx_round_exit ?_
                  refine gx_block_hit ?_
                  refine gx_then ?_
                  refine gsr ?_
                  refine gp (r_ldN rfl Ty.row_80 Ty.sz_80 (by repeat (first | exact Pick.here | apply Pick.there)) (seg_all fnc_length) fnc_length) ?_
                  refine gl_storeN (wt0 rfl) rfl rfl Ty.sz_80 fnc_length (by repeat (first | exact Pick.here | apply Pick.there)) (by simp) (fnc_one fun _ => rfl) (updL_all (by simp [fnc_length])) ?_
                  refine gnt ?_
                  refine gc_ret ?_
                  refine gx_retc rfl rfl (ld_aggS Ty.row_80 Ty.sz_80 (by repeat (first | exact Pick.here | apply Pick.there)) (seg_all fnc_length) fnc_length) ?_
                  rw [pfx_full]
                  exact fun w' hw => ⟨(), rfl, St.hash (hw.sel (M := [blk g 99 (v8c s.v ++ [.slice a0 s.rest.length c0, .int .u64 (s.len : Int)]), rowR 5 1 a0 s.rest.length c0 (s.rest.map B8)]) (by repeat (first | exact Sel.nil | (apply Sel.cons; · (repeat (first | exact Pick.here | apply Pick.there)))))) rfl rfl rfl rfl⟩

end Go.Proofs.YtffkjjakceojfaaDoor

/- Walks, by program (wg.py) out of a spec. -/
namespace Go.Proofs.YtffkjjakceojfaaDoor
open Go
set_option linter.unusedVariables false
set_option linter.unusedSimpArgs false


def dOf (K : Nat → UInt32) (dom : Int) (parts : List (List UInt8)) : Dig := ⟨hOf K dom parts, hOf_length K dom parts⟩
def hStep (K : Nat → UInt32) (s : HS) (p : List UInt8) : HS := hWrite K (hWrite K s (part4 p.length)) p
def hBeg (K : Nat → UInt32) (dom : Int) : HS := hWrite K hs0 [UInt8.ofNat (dom % 256).toNat]
def pcost (l : List (List UInt8)) : Nat := (l.map fun p => p.length + 4).sum
theorem hWrite_rest (K : Nat → UInt32) (s : HS) (b : List UInt8) : (hWrite K s b).rest.length < 64 := takes_rest K s.v (s.rest ++ b)
theorem hWrite_len (K : Nat → UInt32) (s : HS) (b : List UInt8) : (hWrite K s b).len = s.len + b.length := rfl
theorem hFold (K : Nat → UInt32) : ∀ (l : List (List UInt8)) (s : HS), s.rest.length < 64 → (l.foldl (hStep K) s).rest.length < 64 ∧ (l.foldl (hStep K) s).len = s.len + pcost l
  | [], s, h => ⟨h, by simp [pcost]⟩
  | p :: l, s, h => by
    have := hFold K l (hStep K s p) (hWrite_rest _ _ _)
    refine ⟨this.1, ?_⟩
    rw [List.foldl_cons, this.2]
    simp only [hStep, hWrite_len, part4, pcost, List.map_cons, List.sum_cons, List.length_cons, List.length_nil]
    omega
theorem pcost_take {l : List (List UInt8)} {k : Nat} {p : List UInt8} (h : l[k]? = some p) : pcost (l.take k) + (p.length + 4) ≤ pcost l := by
  have e : l = l.take k ++ p :: l.drop (k + 1) := by
    have hk : k < l.length := (List.getElem?_eq_some_iff.1 h).1
    rw [← (List.getElem?_eq_some_iff.1 h).2, List.getElem_cons_drop, List.take_append_drop]
  have : pcost l = pcost (l.take k) + (p.length + 4) + pcost (l.drop (k + 1)) := by
    conv => lhs; rw [e]
    simp [pcost]; omega
  omega
theorem byte_nat {n : Nat} : Value.int .u8 (IntKind.u8.wrap (n : Int)) = B8 (UInt8.ofNat n) := by
  have h1 : ∀ m : Int, IntKind.u8.wrap m = m % 256 := fun m => by simp [IntKind.wrap, IntKind.bits, IntKind.signed]
  simp only [B8, Value.int.injEq, true_and]
  rw [h1, UInt8.toNat_ofNat']; omega
theorem hOf_cut (K : Nat → UInt32) (dom : Int) (parts : List (List UInt8)) : ((fnc B8 32 (outByte (takes K (parts.foldl (hStep K) (hBeg K dom)).v (padded (parts.foldl (hStep K) (hBeg K dom)))).1)).drop 0).take 16 = dc (dOf K dom parts) := by
  rw [List.drop_zero, fnc_sum, ← List.map_take]; rfl
theorem foldl_step {α β : Type} (f : β → α → β) (l : List α) (s : β) {k : Nat} {x : α} (h : l[k]? = some x) : (l.take (k + 1)).foldl f s = f ((l.take k).foldl f s) x := by
  rw [List.take_add_one, h]; simp

attribute [local irreducible] Gl Gc Gx Gs Runs Wt

set_option maxHeartbeats 400000 in
theorem of_ok {w : World} {F : Nat → Prop} {dom : Int} {parts : List (List UInt8)} {a : Option Addr} {n c : Nat} (h : stars [] w F) (hK : KR w (fun k => ¬ F k)) (hx : RdList (RdBytes w fun k => ¬ F k) w (fun k => ¬ F k) 1 a n parts) (hb : 1 + pcost parts ≤ 1099511627776) :
    Calls Tryd.prog 33 #[.int .i64 dom, .slice a n c] w (Post w F (fun _ : Unit => .agg (dc (dOf Kc dom parts)).toArray) (fun _ => [])) := by
  have hnl := hx.len (by decide)
  have hmx := hx.max
  simp only [maxLen] at hmx
  refine g_enter (env := [(0, .int .i64 dom), (1, .slice a n c)]) Tryd.func33 rfl h Tryd.ntmps33 rfl rfl ?_
  refine gsr ?_
  refine zal fun b4 => ?_
  refine gnt ?_
  refine gsr ?_
  refine zc (fun g => ?_) (c := fun w1 F1 F2 h1 h2 hd hst => hnew_ok h1)
  refine gp zas ?_
  refine gnt ?_
  refine gsr ?_
  refine gp zmv ?_
  refine gp zmv ?_
  refine gp (r_val (r_conv_int rfl Ty.un_3 Ty.un_5) byte_int) ?_
  refine ze1 fun b14 => ?_
  refine zc (fun _ => ?_) (c := fun w1 F1 F2 h1 h2 hd hst => hwrite_ok (b := [UInt8.ofNat (dom % 256).toNat]) h1 (hK.mv hst.still) (rd_row (xs := [B8 (UInt8.ofNat (dom % 256).toNat)]) h2 hd (by repeat (first | exact Pick.here | apply Pick.there))) (by decide) (by simp [hs0]))
  refine gnt ?_
  refine gc_seq ?_
  refine gsr ?_
  refine gp zmv ?_
  refine gp zln ?_
  refine gp zmv ?_
  refine gnt ?_
  refine gc_block ?_
  refine gc_loop (α := Nat) (fun k => [pureR (k ≤ n), HashR g ((parts.take k).foldl (hStep Kc) (hBeg Kc dom)), blk b4 69 zD]) (fun k => [(18, .int .i64 (k : Int))]) [7, 8, 19, 20, 21, 22, 23, 24, 25, 26, 27, 28, 29, 30, 31, 32, 33, 34, 35, 36, 37, 38, 39, 40, 41] (fun k => n - k) 0 ?_ ?_ ?_
  · refine env_start (by kernel_rfl)
  · rintro w' hw
    obtain ⟨F', hF', hst'⟩ := hw.sel (M := [HashR g (hBeg Kc dom), blk b4 69 zD]) (by repeat (first | exact Sel.nil | (apply Sel.cons; · (repeat (first | exact Pick.here | apply Pick.there)))))
    exact ⟨F', stars_pure_mk (Nat.zero_le _) hF', hst'⟩
  · intro k u
    refine gc_pureR (fun hk => ?_)
    replace hk : k ≤ n := hk
    refine gsr ?_
    refine gp zlt ?_
    refine gnt ?_
    refine gc_seq ?_
    refine gif rfl (fun hc19 => ?_) (fun hc19 => ?_)
    · have hk' : k < n := by (try simp only at hc19); omega
      obtain ⟨ga, o, cs, y, ha, hA, hg, hra, hcl, hly, hrd⟩ := hx.elem (by decide) hk'
      subst ha
      obtain ⟨a', n', c', rfl, hn', hrb⟩ := hrd
      have hny : n' = y.length := by have := hrb.1; simp at this; omega
      have hpc := pcost_take hly
      have hf := hFold Kc (parts.take k) (hBeg Kc dom) (hWrite_rest _ _ _)
      have hbl : (hBeg Kc dom).len = 1 := rfl
      refine gc_skip ?_
      refine gx_then ?_
      refine gc_seq ?_
      refine gc_block ?_
      refine gsr ?_
      refine gp (r_indexAddr_slice rfl rfl Ty.sl_22 Ty.sz_32 (by omega) (by omega)) ?_
      refine gp (r_ld1o rfl Ty.row_32 (hra 0 _ rfl) hA) ?_
      refine gp zas ?_
      refine gnt ?_
      refine gsr ?_
      refine gp zmv ?_
      refine gp zln ?_
      refine gp zas ?_
      refine gnt ?_
      refine gsr ?_
      refine gp zmv ?_
      refine gp zmv ?_
      refine gp zhr ?_
      refine gp (r_val (r_conv_int rfl Ty.un_3 Ty.un_5) (byte_shrI (j := 24) rfl (by decide))) ?_
      refine gp zmv ?_
      refine gp zhr ?_
      refine gp (r_val (r_conv_int rfl Ty.un_3 Ty.un_5) (byte_shrI (j := 16) rfl (by decide))) ?_
      refine gp zmv ?_
      refine gp zhr ?_
      refine gp (r_val (r_conv_int rfl Ty.un_3 Ty.un_5) (byte_shrI (j := 8) rfl (by decide))) ?_
      refine gp zmv ?_
      refine gp (r_val (r_conv_int rfl Ty.un_3 Ty.un_5) byte_nat) ?_
      refine gl_bsls (vs := (part4 n').map B8) (wt0 rfl) Ty.sl_32 Ty.sz_5 Ty.zc_5 rfl rfl (one_B8 _) rfl rfl rfl ?_
      intro b36
      refine zc (fun _ => ?_) (c := fun w1 F1 F2 h1 h2 hd hst => hwrite_ok (b := part4 n') h1 (hK.mv hst.still) (rd_row (xs := (part4 n').map B8) h2 hd (by repeat (first | exact Pick.here | apply Pick.there))) hf.1 (by rw [hf.2]; simp only [part4, List.length_cons, List.length_nil]; omega))
      refine gnt ?_
      refine gc_region ?_
      refine gp zmv ?_
      refine gp zmv ?_
      refine zc (fun _ => ?_) (c := fun w1 F1 F2 h1 h2 hd hst => hwrite_ok (b := y) h1 (hK.mv hst.still) (hrb.mv hst.still) (hWrite_rest _ _ _) (by rw [hWrite_len, hf.2]; simp only [part4, List.length_cons, List.length_nil]; omega))
      refine gl_nil ?_
      refine gx_block_normal ?_
      refine gx_then ?_
      refine gc_region ?_
      refine gp zad ?_
      refine gp zmv ?_
      refine gl_nil ?_
      refine zrd (k + 1) ?_ ?_
      · show n - (k + 1) < n - k
        omega
      · rintro w' hw
        obtain ⟨F', hF', hst'⟩ := hw.sel (M := [HashR g _, blk b4 69 zD]) (by repeat (first | exact Sel.nil | (apply Sel.cons; · (repeat (first | exact Pick.here | apply Pick.there)))))
        refine ⟨F', stars_pure_mk (show k + 1 ≤ n by omega) ?_, hst'⟩
        rw [foldl_step _ _ _ hly]
        rw [hny] at hF'
        exact hF'
    · have hk' : k = parts.length := by (try simp only at hc19); omega
      subst hk'
      have hf := hFold Kc (parts.take parts.length) (hBeg Kc dom) (hWrite_rest _ _ _)
      rw [List.take_length] at hf
      have hbl : (hBeg Kc dom).len = 1 := rfl
      refine gc_exit ?_
      refine gx_then_exit ?_
      refine gx_round_exit ?_
      refine gx_block_hit ?_
      refine gx_then ?_
      refine gsr ?_
      refine gp zmv ?_
      refine zc (fun _ => ?_) (c := fun w1 F1 F2 h1 h2 hd hst => hsum_ok h1 (hK.mv hst.still) (by rw [List.take_length]; exact hf.1) (by rw [List.take_length, hf.2]; omega))
      rw [List.take_length]
      refine zal fun b9 => ?_
      refine gl_storeN (wt0 rfl) rfl rfl Ty.sz_80 fnc_length (by repeat (first | exact Pick.here | apply Pick.there)) (by simp) (fnc_one fun _ => rfl) (updL_all (by simp [fnc_length])) ?_
      refine gnt ?_
      refine gsr ?_
      refine gp (r_slice_arr (l := 0) (h := 16) rfl Ty.arr_80 Ty.sz_5 rfl ⟨_, rfl⟩ (by decide) (by decide) (by decide)) ?_
      refine gp (r_toArr rfl Ty.arr_69 (by decide)) ?_
      refine gp (r_ldN rfl Ty.row_69 Ty.sz_69 (by repeat (first | exact Pick.here | apply Pick.there)) (hOf_cut Kc dom parts) (dc_length _)) ?_
      refine gl_storeN (wt0 rfl) rfl rfl Ty.sz_69 (dc_length _) (by repeat (first | exact Pick.here | apply Pick.there)) (by decide) (dc_one _) (updL_all (by rw [dc_length]; rfl)) ?_
      refine gnt ?_
      refine gc_ret ?_
      refine gx_retc rfl rfl (ld_aggS Ty.row_69 Ty.sz_69 (by repeat (first | exact Pick.here | apply Pick.there)) (by (simp only [List.drop_succ_cons, List.drop_zero, List.take_succ_cons, List.take_zero, List.cons_append, List.nil_append, List.append_assoc, drop_dc, drop_dc', take_dc, take_dc', drop_L, drop_L', take_L, take_L', len_L, Nat.reduceLeDiff, Nat.reduceSub, Nat.reduceAdd, Nat.le_refl, List.length_cons, List.length_append, List.length_nil, dc_length, List.drop_nil, List.take_nil, List.append_nil, List.length_map, List.length_replicate]; first | done | rfl)) (by first | rfl | (simp only [List.drop_succ_cons, List.drop_zero, List.take_succ_cons, List.take_zero, List.cons_append, List.nil_append, List.append_assoc, drop_dc, drop_dc', take_dc, take_dc', drop_L, drop_L', take_L, take_L', len_L, Nat.reduceLeDiff, Nat.reduceSub, Nat.reduceAdd, Nat.le_refl, List.length_cons, List.length_append, List.length_nil, dc_length, List.drop_nil, List.take_nil, List.append_nil, List.length_map, List.length_replicate]; first | done | omega))) ?_
      exact ze ()

end Go.Proofs.YtffkjjakceojfaaDoor

/- Plain words: what a writer of layer 1 holds, and what its calls make of it. No program in sight. -/
namespace Go.Proofs.YtffkjjakceojfaaDoor
set_option linter.unusedVariables false

structure WS where
  err : Nat
  bs : List UInt8
def byteAt (n : Int) (i : Nat) : UInt8 := UInt8.ofNat (n / 2 ^ (8 * i) % 256).toNat
def beN (n : Int) (wd : Nat) : List UInt8 := (List.range wd).map fun j => byteAt n (wd - 1 - j)
def wFail (k : Nat) (s : WS) : WS := if s.err = 0 then { s with err := k } else s
def wFix (b : List UInt8) (s : WS) : WS := if s.err = 0 then { s with bs := s.bs ++ b } else s
def wNum (n : Int) (wd : Nat) (s : WS) : WS := if n < 0 ∨ (wd < 8 ∧ 2 ^ (8 * wd) ≤ n) then wFail 1 s else wFix (beN n wd) s
theorem beN_length (n : Int) (wd : Nat) : (beN n wd).length = wd := by simp [beN]
theorem beN_zero (n : Int) (wd k : Nat) : beN n 0 = [] := rfl
theorem wFail_bs (k : Nat) (s : WS) : (wFail k s).bs = s.bs := by unfold wFail; split <;> rfl
theorem wFix_len (b : List UInt8) (s : WS) : (wFix b s).bs.length ≤ s.bs.length + b.length := by unfold wFix; split <;> simp
theorem wNum_len (n : Int) (wd : Nat) (s : WS) : (wNum n wd s).bs.length ≤ s.bs.length + wd := by
  unfold wNum; split
  · rw [wFail_bs]; omega
  · have := wFix_len (beN n wd) s; rw [beN_length] at this; exact this
end Go.Proofs.YtffkjjakceojfaaDoor

/- Plain words: what the writer of layer 9 makes of messages' parts. No program in sight. -/
namespace Go.Proofs.YtffkjjakceojfaaDoor
set_option linter.unusedVariables false

def wPut {α : Type} (wX : α → WS → WS) (l : List α) (most : Nat) (s : WS) : WS :=
  if most < l.length ∨ 255 < l.length then wFail 1 s else l.foldl (fun s x => wX x s) (wNum (l.length : Int) 1 s)
def wDig (d : Dig) (s : WS) : WS := wFix d.l s
def wBytes (b : List UInt8) (most : Nat) (s : WS) : WS := if most < b.length ∨ 65535 < b.length then wFail 1 s else wFix b (wNum (b.length : Int) 2 s)
def wSig (x : Sig) (s : WS) : WS := wPut wDig x.path 5 (wPut wDig x.chains 68 (wNum x.leaf 1 s))
def wSigned (x : Signed) (s : WS) : WS := wSig x.sig (wNum x.who 1 s)
def wAt (e r : Int) (s : WS) : WS := wNum r 6 (wNum e 4 s)
def wQC (q : QC) (s : WS) : WS := wPut wSigned q.votes 7 (wDig q.block (wAt q.epoch q.round s))
def wLate (l : Late) (s : WS) : WS := wSig l.sig (wNum l.high 6 (wNum l.who 1 s))
def wTC (t : TC) (s : WS) : WS := wPut wLate t.lates 7 (wAt t.epoch t.round s)
def wVdr (v : Vdr) (s : WS) : WS := wNum v.power 6 (wDig v.key s)
def wBlock (b : Block) (s : WS) : WS := wPut wVdr b.next 7 (wPut (fun t => wBytes t 16) b.payload 4 (wQC b.justify (wDig b.parent (wAt b.epoch b.round s))))

theorem wDig_len (d : Dig) (s : WS) : (wDig d s).bs.length ≤ s.bs.length + 16 := by have := wFix_len d.l s; rw [d.h] at this; exact this
theorem wFail_len (k : Nat) (s : WS) : (wFail k s).bs.length ≤ s.bs.length := by rw [wFail_bs]; omega
theorem foldl_len {α : Type} {wX : α → WS → WS} {c : Nat} (h : ∀ x s, (wX x s).bs.length ≤ s.bs.length + c) : ∀ (l : List α) (s : WS), (l.foldl (fun s x => wX x s) s).bs.length ≤ s.bs.length + l.length * c
  | [], s => by simp
  | x :: l, s => by
    have h1 := h x s
    have h2 := foldl_len h l (wX x s)
    simp only [List.foldl_cons, List.length_cons, Nat.add_mul, Nat.one_mul] at h2 ⊢
    omega
theorem wPut_len {α : Type} {wX : α → WS → WS} {c : Nat} (h : ∀ x s, (wX x s).bs.length ≤ s.bs.length + c) (l : List α) (most : Nat) (s : WS) : (wPut wX l most s).bs.length ≤ s.bs.length + (1 + most * c) := by
  unfold wPut; split
  · have := wFail_len 1 s; omega
  · rename_i hh
    have h1 := foldl_len h l (wNum (l.length : Int) 1 s)
    have h2 := wNum_len (l.length : Int) 1 s
    have h3 : l.length * c ≤ most * c := Nat.mul_le_mul_right _ (by omega)
    omega
theorem wBytes_len (b : List UInt8) (most : Nat) (s : WS) : (wBytes b most s).bs.length ≤ s.bs.length + (2 + most) := by
  unfold wBytes; split
  · have := wFail_len 1 s; omega
  · have h1 := wFix_len b (wNum (b.length : Int) 2 s); have h2 := wNum_len (b.length : Int) 2 s; omega
theorem wSig_len (x : Sig) (s : WS) : (wSig x s).bs.length ≤ s.bs.length + 1171 := by
  have h1 := wNum_len x.leaf 1 s
  have h2 := wPut_len wDig_len x.chains 68 (wNum x.leaf 1 s)
  have h3 := wPut_len wDig_len x.path 5 (wPut wDig x.chains 68 (wNum x.leaf 1 s))
  unfold wSig; omega
theorem wSigned_len (x : Signed) (s : WS) : (wSigned x s).bs.length ≤ s.bs.length + 1172 := by
  have h1 := wNum_len x.who 1 s; have h2 := wSig_len x.sig (wNum x.who 1 s); unfold wSigned; omega
theorem wAt_len (e r : Int) (s : WS) : (wAt e r s).bs.length ≤ s.bs.length + 10 := by
  have h1 := wNum_len e 4 s; have h2 := wNum_len r 6 (wNum e 4 s); unfold wAt; omega
theorem wQC_len (q : QC) (s : WS) : (wQC q s).bs.length ≤ s.bs.length + 8231 := by
  have h1 := wAt_len q.epoch q.round s; have h2 := wDig_len q.block (wAt q.epoch q.round s); have h3 := wPut_len wSigned_len q.votes 7 (wDig q.block (wAt q.epoch q.round s)); unfold wQC; omega
theorem wLate_len (l : Late) (s : WS) : (wLate l s).bs.length ≤ s.bs.length + 1178 := by
  have h1 := wNum_len l.who 1 s; have h2 := wNum_len l.high 6 (wNum l.who 1 s); have h3 := wSig_len l.sig (wNum l.high 6 (wNum l.who 1 s)); unfold wLate; omega
theorem wTC_len (t : TC) (s : WS) : (wTC t s).bs.length ≤ s.bs.length + 8257 := by
  have h1 := wAt_len t.epoch t.round s; have h2 := wPut_len wLate_len t.lates 7 (wAt t.epoch t.round s); unfold wTC; omega
theorem wVdr_len (v : Vdr) (s : WS) : (wVdr v s).bs.length ≤ s.bs.length + 22 := by
  have h1 := wDig_len v.key s; have h2 := wNum_len v.power 6 (wDig v.key s); unfold wVdr; omega
theorem wBlock_len (b : Block) (s : WS) : (wBlock b s).bs.length ≤ s.bs.length + 8485 := by
  have h1 := wAt_len b.epoch b.round s; have h2 := wDig_len b.parent (wAt b.epoch b.round s); have h3 := wQC_len b.justify (wDig b.parent (wAt b.epoch b.round s))
  have h4 := wPut_len (wX := fun t => wBytes t 16) (c := 18) (fun x s => wBytes_len x 16 s) b.payload 4 (wQC b.justify (wDig b.parent (wAt b.epoch b.round s)))
  have h5 := wPut_len wVdr_len b.next 7 (wPut (fun t => wBytes t 16) b.payload 4 (wQC b.justify (wDig b.parent (wAt b.epoch b.round s))))
  unfold wBlock; omega
def wVote (v : Vote) (s : WS) : WS := wSigned v.sender (wDig v.block (wAt v.epoch v.round s))
def wTmo (v : Tmo) (s : WS) : WS := wSigned v.sender (wTC v.last (wQC v.high (wAt v.epoch v.round s)))
def wProp (v : Prop') (s : WS) : WS := wSigned v.sender (wTC v.last (wBlock v.block s))
def wChg (c : Chg) (s : WS) : WS := wQC c.qc (c.blocks.foldl (fun s b => wBlock b s) s)
def wBody (m : Msg) (s : WS) : WS :=
  if m.kind = 1 then wVote m.vote s else if m.kind = 2 then wTmo m.tmo s else if m.kind = 3 then wProp m.prop s
  else if m.kind = 4 then wDig m.wantBlock (wDig m.wantFrom s) else if m.kind = 5 then wBlock m.reply s else wChg m.chg s
def wMsg (m : Msg) (s : WS) : WS := wBody m (wNum m.kind 1 s)
theorem foldl_take_succ {α β : Type} (f : β → α → β) (l : List α) (s : β) {k : Nat} {x : α} (h : l[k]? = some x) : (l.take (k + 1)).foldl f s = f ((l.take k).foldl f s) x := by
  have hk : k < l.length := (List.getElem?_eq_some_iff.1 h).1
  rw [List.take_add_one, h]
  simp
end Go.Proofs.YtffkjjakceojfaaDoor

/- Plain words: what the reader of layer 9 makes of bytes; that it undoes the writer, and the writer it. No program in sight. -/
namespace Go.Proofs.YtffkjjakceojfaaDoor
set_option linter.unusedVariables false

/-- A reading: a value and what is left, or an error's number. -/
abbrev PR (α : Type) := List UInt8 → Except Nat (α × List UInt8)
def pBind {α β : Type} (p : PR α) (f : α → PR β) : PR β := fun b => match p b with
  | .error e => .error e
  | .ok x => f x.1 x.2
def pPure {α : Type} (x : α) : PR α := fun b => .ok (x, b)
def pErr {α : Type} (e : Nat) : PR α := fun _ => .error e
def pTake (n : Nat) : PR (List UInt8) := fun b => if b.length < n then .error 2 else .ok (b.take n, b.drop n)
def valN (l : List UInt8) : Nat := l.foldl (fun n c => n * 256 + c.toNat) 0
def pNum (wd : Nat) : PR Int := pBind (pTake wd) fun l => pPure (valN l : Int)
def digOf (l : List UInt8) : Dig := if h : l.length = 16 then ⟨l, h⟩ else dig0
def pDig : PR Dig := pBind (pTake 16) fun l => pPure (digOf l)
def pMany {α : Type} (one : PR α) : Nat → PR (List α)
  | 0 => pPure []
  | k + 1 => pBind one fun x => pBind (pMany one k) fun l => pPure (x :: l)
def pList {α : Type} (one : PR α) (most : Nat) : PR (List α) := pBind (pNum 1) fun n => if (most : Int) < n then pErr 1 else pMany one n.toNat
def pBytes (most : Nat) : PR (List UInt8) := pBind (pNum 2) fun n => if (most : Int) < n then pErr 1 else pTake n.toNat
def pSig : PR Sig := pBind (pNum 1) fun l => pBind (pList pDig 68) fun c => pBind (pList pDig 5) fun p => pPure ⟨l, c, p⟩
def pSigned : PR Signed := pBind (pNum 1) fun w => pBind pSig fun s => pPure ⟨w, s⟩
def pAt : PR (Int × Int) := pBind (pNum 4) fun e => pBind (pNum 6) fun r => pPure (e, r)
def pQC : PR QC := pBind pAt fun a => pBind pDig fun d => pBind (pList pSigned 7) fun v => pPure ⟨a.1, a.2, d, v⟩
def pLate : PR Late := pBind (pNum 1) fun w => pBind (pNum 6) fun h => pBind pSig fun s => pPure ⟨w, h, s⟩
def pTC : PR TC := pBind pAt fun a => pBind (pList pLate 7) fun l => pPure ⟨a.1, a.2, l⟩
def pVdr : PR Vdr := pBind pDig fun k => pBind (pNum 6) fun p => pPure ⟨k, p⟩
def pBlock : PR Block := pBind pAt fun a => pBind pDig fun d => pBind pQC fun q => pBind (pList (pBytes 16) 4) fun t => pBind (pList pVdr 7) fun v => pPure ⟨a.1, a.2, d, q, t, v⟩
def pChg : PR Chg := pBind (pMany pBlock 3) fun bs => pBind pQC fun q => pPure ⟨bs, q⟩
def pVote : PR Vote := pBind pAt fun a => pBind pDig fun d => pBind pSigned fun s => pPure ⟨a.1, a.2, d, s⟩
def pTmo : PR Tmo := pBind pAt fun a => pBind pQC fun q => pBind pTC fun t => pBind pSigned fun s => pPure ⟨a.1, a.2, q, t, s⟩
def pProp : PR Prop' := pBind pBlock fun b => pBind pTC fun t => pBind pSigned fun s => pPure ⟨b, t, s⟩
def sig0 : Sig := ⟨0, [], []⟩
def sgn0 : Signed := ⟨0, sig0⟩
def qc0 : QC := ⟨0, 0, dig0, []⟩
def tc0 : TC := ⟨0, 0, []⟩
def blk0 : Block := ⟨0, 0, dig0, qc0, [], []⟩
def chg0 : Chg := ⟨[blk0, blk0, blk0], qc0⟩
def msg0 (k : Int) : Msg := ⟨k, ⟨0, 0, dig0, sgn0⟩, ⟨0, 0, qc0, tc0, sgn0⟩, ⟨blk0, tc0, sgn0⟩, dig0, dig0, blk0, chg0⟩
def pBody (k : Int) : PR Msg :=
  if k = 1 then pBind pVote fun v => pPure { msg0 k with vote := v }
  else if k = 2 then pBind pTmo fun v => pPure { msg0 k with tmo := v }
  else if k = 3 then pBind pProp fun v => pPure { msg0 k with prop := v }
  else if k = 4 then pBind pDig fun d => pBind pDig fun e => pPure { msg0 k with wantFrom := d, wantBlock := e }
  else if k = 5 then pBind pBlock fun v => pPure { msg0 k with reply := v }
  else if k = 6 then pBind pChg fun v => pPure { msg0 k with chg := v }
  else pErr 4
def pMsg : PR Msg := pBind (pNum 1) pBody
/-- All bytes are read. -/
def pAll {α : Type} (p : PR α) (b : List UInt8) : Except Nat α := match p b with
  | .error e => .error e
  | .ok x => if x.2 = [] then .ok x.1 else .error 3
/-- A message with its kind's fields alone. -/
def plainM (m : Msg) : Msg :=
  if m.kind = 1 then { msg0 m.kind with vote := m.vote }
  else if m.kind = 2 then { msg0 m.kind with tmo := m.tmo }
  else if m.kind = 3 then { msg0 m.kind with prop := m.prop }
  else if m.kind = 4 then { msg0 m.kind with wantFrom := m.wantFrom, wantBlock := m.wantBlock }
  else if m.kind = 5 then { msg0 m.kind with reply := m.reply }
  else if m.kind = 6 then { msg0 m.kind with chg := m.chg }
  else msg0 m.kind

/-! ### Numbers -/
theorem valN_go (l : List UInt8) (a : Nat) : l.foldl (fun n c => n * 256 + c.toNat) a = a * 256 ^ l.length + valN l := by
  unfold valN
  induction l generalizing a with
  | nil => simp
  | cons c l ih =>
    rw [List.foldl_cons, ih, List.foldl_cons, ih (0 * 256 + c.toNat), List.length_cons, Nat.pow_succ, Nat.add_mul, Nat.zero_mul, Nat.zero_add, Nat.mul_comm (256 ^ l.length) 256, ← Nat.mul_assoc]
    omega
theorem valN_cons (c : UInt8) (l : List UInt8) : valN (c :: l) = c.toNat * 256 ^ l.length + valN l := by
  conv => lhs; unfold valN
  rw [List.foldl_cons, valN_go, Nat.zero_mul, Nat.zero_add]
theorem valN_lt (l : List UInt8) : valN l < 256 ^ l.length := by
  induction l with
  | nil => simp [valN]
  | cons c l ih =>
    rw [valN_cons, List.length_cons, Nat.pow_succ]
    have := c.toNat_lt
    have h2 : c.toNat * 256 ^ l.length ≤ 255 * 256 ^ l.length := Nat.mul_le_mul_right _ (by omega)
    omega
theorem beN_succ (n : Int) (wd : Nat) : beN n (wd + 1) = byteAt n wd :: beN n wd := by
  simp only [beN, List.range_succ_eq_map, List.map_cons, List.map_map]
  congr 1
  apply List.map_congr_left
  intro j hj
  simp only [Function.comp]
  congr 1
  omega
theorem byteAt_nat (n i : Nat) : byteAt (n : Int) i = UInt8.ofNat (n / 256 ^ i) := by
  unfold byteAt
  have e : (2 : Int) ^ (8 * i) = ((256 ^ i : Nat) : Int) := by
    rw [Int.pow_mul]; simp
  rw [e, ← Int.natCast_ediv, show ((n / 256 ^ i : Nat) : Int) % 256 = ((n / 256 ^ i % 256 : Nat) : Int) by simp, Int.toNat_natCast]
  apply UInt8.toNat_inj.1
  simp
theorem valN_beN (n wd : Nat) : valN (beN (n : Int) wd) = n % 256 ^ wd := by
  induction wd with
  | zero => simp [beN, valN, Nat.mod_one]
  | succ wd ih =>
    have e : n % 256 ^ (wd + 1) = n % 256 ^ wd + 256 ^ wd * (n / 256 ^ wd % 256) := by rw [Nat.pow_succ, Nat.mod_mul]
    rw [beN_succ, valN_cons, ih, beN_length, byteAt_nat, UInt8.toNat_ofNat', e]
    rw [Nat.add_comm, Nat.mul_comm]
theorem beN_mod (c v k j : Nat) (h : j ≤ k) : beN ((c * 256 ^ k + v : Nat) : Int) j = beN (v : Int) j := by
  induction j with
  | zero => rfl
  | succ j ih =>
    rw [beN_succ, beN_succ, ih (by omega), byteAt_nat, byteAt_nat]
    congr 1
    apply UInt8.toNat_inj.1
    obtain ⟨d, rfl⟩ : ∃ d, k = j + 1 + d := ⟨k - (j + 1), by omega⟩
    have e : c * 256 ^ (j + 1 + d) + v = v + 256 ^ j * (256 * (256 ^ d * c)) := by
      rw [Nat.pow_add, Nat.pow_succ]
      rw [Nat.add_comm]; congr 1
      rw [Nat.mul_comm c, Nat.mul_assoc, Nat.mul_assoc]
    rw [e, UInt8.toNat_ofNat', UInt8.toNat_ofNat', Nat.add_mul_div_left _ _ (Nat.pow_pos (by decide))]
    omega
theorem beN_valN (l : List UInt8) : beN (valN l : Int) l.length = l := by
  induction l with
  | nil => rfl
  | cons c l ih =>
    rw [List.length_cons, beN_succ, valN_cons, beN_mod _ _ _ _ (Nat.le_refl _), ih, byteAt_nat]
    congr 1
    apply UInt8.toNat_inj.1
    rw [UInt8.toNat_ofNat', Nat.mul_comm, Nat.mul_add_div (Nat.pow_pos (by decide)), Nat.div_eq_of_lt (valN_lt l)]
    have := c.toNat_lt
    omega

/-! ### What is written is read -/
/-- What W writes is what p reads. -/
def Enc {α : Type} (W : α → WS → WS) (p : PR α) : Prop := ∀ x s, (W x s).err = 0 → s.err = 0 ∧ ∃ b, (W x s).bs = s.bs ++ b ∧ ∀ r, p (b ++ r) = .ok (x, r)
/-- What p reads is what W writes. -/
def Dec {α : Type} (W : α → WS → WS) (p : PR α) : Prop := ∀ b x r, p b = .ok (x, r) → ∃ b', b = b' ++ r ∧ ∀ s, s.err = 0 → W x s = ⟨0, s.bs ++ b'⟩
/-- What p reads it reads whatever is behind; cut short it is short. -/
def Loc {α : Type} (p : PR α) : Prop := ∀ b x r, p b = .ok (x, r) → ∃ b', b = b' ++ r ∧ (∀ m, p (b' ++ m) = .ok (x, m)) ∧ ∀ k, k < b'.length → p (b'.take k) = .error 2

theorem pBind_ok {α β : Type} {p : PR α} {f : α → PR β} {b r : List UInt8} {y : β} (h : pBind p f b = .ok (y, r)) : ∃ x r1, p b = .ok (x, r1) ∧ f x r1 = .ok (y, r) := by
  unfold pBind at h
  cases hp : p b with
  | error e => rw [hp] at h; cases h
  | ok x => rw [hp] at h; exact ⟨x.1, x.2, rfl, h⟩
theorem pBind_eq {α β : Type} {p : PR α} {f : α → PR β} {b r : List UInt8} {x : α} (h : p b = .ok (x, r)) : pBind p f b = f x r := by
  unfold pBind; rw [h]
theorem pBind_err {α β : Type} {p : PR α} {f : α → PR β} {b : List UInt8} {e : Nat} (h : p b = .error e) : pBind p f b = .error e := by
  unfold pBind; rw [h]
theorem pTake_ok {n : Nat} {b l r : List UInt8} (h : pTake n b = .ok (l, r)) : b = l ++ r ∧ l.length = n := by
  unfold pTake at h
  split at h
  · cases h
  · simp only [Except.ok.injEq, Prod.mk.injEq] at h
    obtain ⟨rfl, rfl⟩ := h
    simp; omega
theorem pTake_app (l r : List UInt8) : pTake l.length (l ++ r) = .ok (l, r) := by
  simp [pTake]
theorem pNum_app {wd n : Nat} (h : n < 256 ^ wd) (r : List UInt8) : pNum wd (beN (n : Int) wd ++ r) = .ok ((n : Int), r) := by
  have := pTake_app (beN (n : Int) wd) r
  rw [beN_length] at this
  rw [pNum, pBind_eq this, valN_beN, Nat.mod_eq_of_lt h]; rfl
theorem pNum_ok {wd : Nat} {b r : List UInt8} {n : Int} (h : pNum wd b = .ok (n, r)) : ∃ m : Nat, n = m ∧ m < 256 ^ wd ∧ b = beN n wd ++ r := by
  obtain ⟨l, r1, h1, h2⟩ := pBind_ok h
  obtain ⟨rfl, rfl⟩ := pTake_ok h1
  simp only [pPure, Except.ok.injEq, Prod.mk.injEq] at h2
  obtain ⟨rfl, rfl⟩ := h2
  exact ⟨valN l, rfl, valN_lt l, by rw [beN_valN]⟩
theorem wNum_ok {n : Int} {wd : Nat} {s : WS} (hw : wd < 8) (h : (wNum n wd s).err = 0) : s.err = 0 ∧ 0 ≤ n ∧ n < 256 ^ wd ∧ wNum n wd s = ⟨0, s.bs ++ beN n wd⟩ := by
  have e : (2 : Int) ^ (8 * wd) = 256 ^ wd := by rw [Int.pow_mul]; rfl
  unfold wNum at h ⊢
  split at h
  · exfalso
    unfold wFail at h
    split at h
    · simp at h
    · contradiction
  · rename_i hn
    rw [if_neg hn]
    have hn' : 0 ≤ n ∧ n < 256 ^ wd := by rw [← e]; omega
    unfold wFix at h ⊢
    split at h
    · rename_i hs
      rw [if_pos hs, hs]
      exact ⟨rfl, hn'.1, hn'.2, rfl⟩
    · contradiction
theorem wNum_of {n wd : Nat} {s : WS} (h : n < 256 ^ wd) (hs : s.err = 0) : wNum (n : Int) wd s = ⟨0, s.bs ++ beN n wd⟩ := by
  have e : (2 : Int) ^ (8 * wd) = ((256 ^ wd : Nat) : Int) := by rw [Int.pow_mul]; simp
  unfold wNum
  rw [e, if_neg (by omega), wFix, if_pos hs, hs]
theorem wFail_err {k : Nat} (hk : k ≠ 0) (s : WS) : (wFail k s).err ≠ 0 := by
  unfold wFail; split
  · exact hk
  · assumption
theorem wFix_ok {b : List UInt8} {s : WS} (h : (wFix b s).err = 0) : s.err = 0 ∧ wFix b s = ⟨0, s.bs ++ b⟩ := by
  unfold wFix at h ⊢
  split at h
  · rename_i hs; rw [if_pos hs, hs]; exact ⟨rfl, rfl⟩
  · contradiction
theorem wFix_of {b : List UInt8} {s : WS} (hs : s.err = 0) : wFix b s = ⟨0, s.bs ++ b⟩ := by rw [wFix, if_pos hs, hs]

theorem enc_num {wd : Nat} (hw : wd < 8) : Enc (fun n s => wNum n wd s) (pNum wd) := fun n s h => by
  obtain ⟨h1, h2, h3, h4⟩ := wNum_ok hw h
  refine ⟨h1, beN n wd, by simp only [h4], fun r => ?_⟩
  obtain ⟨m, rfl⟩ := Int.eq_ofNat_of_zero_le h2
  exact pNum_app (by have : ((m : Nat) : Int) < ((256 ^ wd : Nat) : Int) := by simpa using h3
                     omega) r
theorem dec_num {wd : Nat} : Dec (fun n s => wNum n wd s) (pNum wd) := fun b n r h => by
  obtain ⟨m, rfl, h2, h3⟩ := pNum_ok h
  exact ⟨beN m wd, h3, fun s hs => wNum_of h2 hs⟩
theorem enc_dig : Enc wDig pDig := fun d s h => by
  obtain ⟨h1, h2⟩ := wFix_ok h
  refine ⟨h1, d.l, by simp only [wDig, h2], fun r => ?_⟩
  have := pTake_app d.l r
  rw [d.h] at this
  rw [pDig, pBind_eq this, digOf, dif_pos d.h]; rfl
theorem dec_dig : Dec wDig pDig := fun b d r h => by
  obtain ⟨l, r1, h1, h2⟩ := pBind_ok h
  obtain ⟨rfl, hl⟩ := pTake_ok h1
  simp only [pPure, Except.ok.injEq, Prod.mk.injEq, digOf, dif_pos hl] at h2
  obtain ⟨rfl, rfl⟩ := h2
  exact ⟨l, rfl, fun s hs => wFix_of hs⟩
/-- One behind the other: first a part, then the rest. -/
theorem enc_bind {α β : Type} {W : α → WS → WS} {p : PR α} (h : Enc W p) {V : β → WS → WS} {q : α → PR β} {g : β → α} (hv : ∀ y s, (V y s).err = 0 → s.err = 0 ∧ ∃ b, (V y s).bs = s.bs ++ b ∧ ∀ r, q (g y) (b ++ r) = .ok (y, r)) :
    Enc (fun y s => V y (W (g y) s)) (pBind p q) := fun y s hs => by
  obtain ⟨h1, b2, e2, k2⟩ := hv y _ hs
  obtain ⟨h3, b1, e1, k1⟩ := h _ _ h1
  refine ⟨h3, b1 ++ b2, by rw [e2, e1, List.append_assoc], fun r => ?_⟩
  rw [List.append_assoc, pBind_eq (k1 _), k2]
theorem dec_bind {α β : Type} {W : α → WS → WS} {p : PR α} (h : Dec W p) {V : β → WS → WS} {q : α → PR β} {g : β → α}
    (hv : ∀ a b y r, q a b = .ok (y, r) → g y = a ∧ ∃ b', b = b' ++ r ∧ ∀ s, s.err = 0 → V y s = ⟨0, s.bs ++ b'⟩) : Dec (fun y s => V y (W (g y) s)) (pBind p q) := fun b y r hb => by
  obtain ⟨x, r1, h1, h2⟩ := pBind_ok hb
  obtain ⟨b1, rfl, k1⟩ := h _ _ _ h1
  obtain ⟨rfl, b2, rfl, k2⟩ := hv _ _ _ _ h2
  exact ⟨b1 ++ b2, by rw [List.append_assoc], fun s hs => by show V y (W (g y) s) = _; rw [k1 s hs, k2 _ rfl, List.append_assoc]⟩
theorem foldl_err {α : Type} {W : α → WS → WS} (h : ∀ x s, (W x s).err = 0 → s.err = 0) : ∀ (l : List α) (s : WS), (l.foldl (fun s x => W x s) s).err = 0 → s.err = 0
  | [], s, hs => hs
  | x :: l, s, hs => h x s (foldl_err h l _ hs)
theorem enc_many {α : Type} {W : α → WS → WS} {p : PR α} (h : Enc W p) : ∀ (l : List α) (s : WS), (l.foldl (fun s x => W x s) s).err = 0 → s.err = 0 ∧ ∃ b, (l.foldl (fun s x => W x s) s).bs = s.bs ++ b ∧ ∀ r, pMany p l.length (b ++ r) = .ok (l, r)
  | [], s, hs => ⟨hs, [], by simp, fun r => rfl⟩
  | x :: l, s, hs => by
    obtain ⟨h1, b2, e2, k2⟩ := enc_many h l (W x s) hs
    obtain ⟨h3, b1, e1, k1⟩ := h _ _ h1
    refine ⟨h3, b1 ++ b2, by rw [List.foldl_cons, e2, e1, List.append_assoc], fun r => ?_⟩
    rw [List.append_assoc, List.length_cons, pMany, pBind_eq (k1 _), pBind_eq (k2 _)]; rfl
theorem dec_many {α : Type} {W : α → WS → WS} {p : PR α} (h : Dec W p) : ∀ (n : Nat) (b : List UInt8) (l : List α) (r : List UInt8), pMany p n b = .ok (l, r) → l.length = n ∧ ∃ b', b = b' ++ r ∧ ∀ s, s.err = 0 → l.foldl (fun s x => W x s) s = ⟨0, s.bs ++ b'⟩
  | 0, b, l, r, hb => by
    simp only [pMany, pPure, Except.ok.injEq, Prod.mk.injEq] at hb
    obtain ⟨rfl, rfl⟩ := hb
    exact ⟨rfl, [], rfl, fun s hs => by rw [← hs]; simp⟩
  | n + 1, b, l, r, hb => by
    obtain ⟨x, r1, h1, h2⟩ := pBind_ok hb
    obtain ⟨l', r2, h3, h4⟩ := pBind_ok h2
    simp only [pPure, Except.ok.injEq, Prod.mk.injEq] at h4
    obtain ⟨rfl, rfl⟩ := h4
    obtain ⟨b1, rfl, k1⟩ := h _ _ _ h1
    obtain ⟨hl, b2, rfl, k2⟩ := dec_many h n _ _ _ h3
    exact ⟨by simp [hl], b1 ++ b2, by rw [List.append_assoc], fun s hs => by rw [List.foldl_cons, k1 s hs, k2 _ rfl, List.append_assoc]⟩
theorem enc_list {α : Type} {W : α → WS → WS} {p : PR α} (h : Enc W p) (most : Nat) : Enc (fun l s => wPut W l most s) (pList p most) := fun l s hs => by
  simp only [wPut] at hs ⊢
  split at hs
  · exact absurd hs (wFail_err (by decide) s)
  · rename_i hn
    rw [if_neg hn]
    obtain ⟨h1, b2, e2, k2⟩ := enc_many h l _ hs
    obtain ⟨h3, b1, e1, k1⟩ := enc_num (wd := 1) (by decide) _ _ h1
    refine ⟨h3, b1 ++ b2, by rw [e2, e1, List.append_assoc], fun r => ?_⟩
    rw [List.append_assoc, pList, pBind_eq (k1 _), if_neg (by omega), Int.toNat_natCast, k2]
theorem dec_list {α : Type} {W : α → WS → WS} {p : PR α} (h : Dec W p) (most : Nat) : Dec (fun l s => wPut W l most s) (pList p most) := fun b l r hb => by
  obtain ⟨n, r1, h1, h2⟩ := pBind_ok hb
  obtain ⟨m, rfl, hm, _⟩ := pNum_ok h1
  obtain ⟨b1, rfl, k1⟩ := dec_num _ _ _ h1
  split at h2
  · cases h2
  · rename_i hn
    rw [Int.toNat_natCast] at h2
    obtain ⟨hl, b2, rfl, k2⟩ := dec_many h _ _ _ _ h2
    refine ⟨b1 ++ b2, by rw [List.append_assoc], fun s hs => ?_⟩
    simp only [wPut]
    rw [if_neg (by omega), hl, show wNum (m : Int) 1 s = _ from k1 s hs, k2 _ rfl, List.append_assoc]
theorem enc_bytes {most : Nat} : Enc (fun b s => wBytes b most s) (pBytes most) := fun l s hs => by
  simp only [wBytes] at hs ⊢
  split at hs
  · exact absurd hs (wFail_err (by decide) s)
  · rename_i hn
    rw [if_neg hn]
    obtain ⟨h1, h2⟩ := wFix_ok hs
    obtain ⟨h3, b1, e1, k1⟩ := enc_num (wd := 2) (by decide) _ _ h1
    refine ⟨h3, b1 ++ l, by simp only [h2, e1, List.append_assoc], fun r => ?_⟩
    rw [List.append_assoc, pBytes, pBind_eq (k1 _), if_neg (by omega), Int.toNat_natCast, pTake_app]
theorem dec_bytes {most : Nat} : Dec (fun b s => wBytes b most s) (pBytes most) := fun b l r hb => by
  obtain ⟨n, r1, h1, h2⟩ := pBind_ok hb
  obtain ⟨m, rfl, hm, _⟩ := pNum_ok h1
  obtain ⟨b1, rfl, k1⟩ := dec_num _ _ _ h1
  split at h2
  · cases h2
  · rename_i hn
    rw [Int.toNat_natCast] at h2
    obtain ⟨rfl, hl⟩ := pTake_ok h2
    refine ⟨b1 ++ l, by rw [List.append_assoc], fun s hs => ?_⟩
    simp only [wBytes]
    rw [if_neg (by omega), hl, show wNum (m : Int) 2 s = _ from k1 s hs, wFix_of rfl, List.append_assoc]

/-! ### Cut short -/
theorem loc_pure {α : Type} (x : α) : Loc (pPure x) := fun b y r h => by
  simp only [pPure, Except.ok.injEq, Prod.mk.injEq] at h
  obtain ⟨rfl, rfl⟩ := h
  exact ⟨[], rfl, fun m => rfl, fun k hk => absurd hk (by simp)⟩
theorem loc_err {α : Type} (e : Nat) : Loc (pErr (α := α) e) := fun b y r h => by cases h
theorem loc_take (n : Nat) : Loc (pTake n) := fun b l r h => by
  obtain ⟨rfl, hl⟩ := pTake_ok h
  refine ⟨l, rfl, fun m => by rw [← hl]; exact pTake_app l m, fun k hk => ?_⟩
  unfold pTake
  rw [if_pos (by rw [List.length_take]; omega)]
theorem loc_bind {α β : Type} {p : PR α} {f : α → PR β} (hp : Loc p) (hf : ∀ x, Loc (f x)) : Loc (pBind p f) := fun b y r h => by
  obtain ⟨x, r1, h1, h2⟩ := pBind_ok h
  obtain ⟨b1, rfl, k1, s1⟩ := hp _ _ _ h1
  obtain ⟨b2, rfl, k2, s2⟩ := hf _ _ _ _ h2
  refine ⟨b1 ++ b2, by rw [List.append_assoc], fun m => by rw [List.append_assoc, pBind_eq (k1 _), k2], fun k hk => ?_⟩
  by_cases hk1 : k < b1.length
  · rw [List.take_append_of_le_length (by omega), pBind_err (s1 k hk1)]
  · obtain ⟨j, rfl⟩ : ∃ j, k = b1.length + j := ⟨k - b1.length, by omega⟩
    rw [List.take_append, pBind_eq (x := x) (r := b2.take j)]
    · exact s2 j (by rw [List.length_append] at hk; omega)
    · rw [List.take_of_length_le (by omega), Nat.add_sub_cancel_left]; exact k1 _
theorem loc_num (wd : Nat) : Loc (pNum wd) := loc_bind (loc_take wd) fun _ => loc_pure _
theorem loc_dig : Loc pDig := loc_bind (loc_take 16) fun _ => loc_pure _
theorem loc_many {α : Type} {p : PR α} (h : Loc p) : ∀ n, Loc (pMany p n)
  | 0 => loc_pure _
  | n + 1 => loc_bind h fun _ => loc_bind (loc_many h n) fun _ => loc_pure _
theorem loc_ite {α : Type} {c : Prop} [Decidable c] {p q : PR α} (hp : Loc p) (hq : Loc q) : Loc (if c then p else q) := by split <;> assumption
theorem loc_list {α : Type} {p : PR α} (h : Loc p) (most : Nat) : Loc (pList p most) := loc_bind (loc_num 1) fun _ => loc_ite (loc_err 1) (loc_many h _)
theorem loc_bytes (most : Nat) : Loc (pBytes most) := loc_bind (loc_num 2) fun _ => loc_ite (loc_err 1) (loc_take _)
theorem loc_sig : Loc pSig := loc_bind (loc_num 1) fun _ => loc_bind (loc_list loc_dig 68) fun _ => loc_bind (loc_list loc_dig 5) fun _ => loc_pure _
theorem loc_signed : Loc pSigned := loc_bind (loc_num 1) fun _ => loc_bind loc_sig fun _ => loc_pure _
theorem loc_at : Loc pAt := loc_bind (loc_num 4) fun _ => loc_bind (loc_num 6) fun _ => loc_pure _
theorem loc_qc : Loc pQC := loc_bind loc_at fun _ => loc_bind loc_dig fun _ => loc_bind (loc_list loc_signed 7) fun _ => loc_pure _
theorem loc_late : Loc pLate := loc_bind (loc_num 1) fun _ => loc_bind (loc_num 6) fun _ => loc_bind loc_sig fun _ => loc_pure _
theorem loc_tc : Loc pTC := loc_bind loc_at fun _ => loc_bind (loc_list loc_late 7) fun _ => loc_pure _
theorem loc_vdr : Loc pVdr := loc_bind loc_dig fun _ => loc_bind (loc_num 6) fun _ => loc_pure _
theorem loc_block : Loc pBlock := loc_bind loc_at fun _ => loc_bind loc_dig fun _ => loc_bind loc_qc fun _ => loc_bind (loc_list (loc_bytes 16) 4) fun _ => loc_bind (loc_list loc_vdr 7) fun _ => loc_pure _
theorem loc_chg : Loc pChg := loc_bind (loc_many loc_block 3) fun _ => loc_bind loc_qc fun _ => loc_pure _
theorem loc_vote : Loc pVote := loc_bind loc_at fun _ => loc_bind loc_dig fun _ => loc_bind loc_signed fun _ => loc_pure _
theorem loc_tmo : Loc pTmo := loc_bind loc_at fun _ => loc_bind loc_qc fun _ => loc_bind loc_tc fun _ => loc_bind loc_signed fun _ => loc_pure _
theorem loc_prop : Loc pProp := loc_bind loc_block fun _ => loc_bind loc_tc fun _ => loc_bind loc_signed fun _ => loc_pure _
theorem loc_body (k : Int) : Loc (pBody k) := by
  unfold pBody
  refine loc_ite (loc_bind loc_vote fun _ => loc_pure _) (loc_ite (loc_bind loc_tmo fun _ => loc_pure _) (loc_ite (loc_bind loc_prop fun _ => loc_pure _) (loc_ite (loc_bind loc_dig fun _ => loc_bind loc_dig fun _ => loc_pure _) (loc_ite (loc_bind loc_block fun _ => loc_pure _) (loc_ite (loc_bind loc_chg fun _ => loc_pure _) (loc_err 4))))))
theorem loc_msg : Loc pMsg := loc_bind (loc_num 1) loc_body

/-! ### The parts of messages -/
theorem pPure_ok {α : Type} {x y : α} {b r : List UInt8} (h : pPure x b = .ok (y, r)) : x = y ∧ b = r := by
  simpa only [pPure, Except.ok.injEq, Prod.mk.injEq] using h
/-- The same of one value. -/
def EncAt {β : Type} (f : WS → WS) (p : PR β) (y : β) : Prop := ∀ s, (f s).err = 0 → s.err = 0 ∧ ∃ b, (f s).bs = s.bs ++ b ∧ ∀ r, p (b ++ r) = .ok (y, r)
theorem encAt_pure {β : Type} (y : β) : EncAt (fun s => s) (pPure y) y := fun s h => ⟨h, [], by simp, fun r => rfl⟩
theorem encAt_bind {α β : Type} {f g : WS → WS} {p : PR α} {q : α → PR β} {x : α} {y : β} (h : EncAt f p x) (k : EncAt g (q x) y) : EncAt (fun s => g (f s)) (pBind p q) y := fun s hs => by
  obtain ⟨h1, b2, e2, k2⟩ := k _ hs
  obtain ⟨h3, b1, e1, k1⟩ := h _ h1
  refine ⟨h3, b1 ++ b2, by rw [e2, e1, List.append_assoc], fun r => ?_⟩
  rw [List.append_assoc, pBind_eq (k1 _), k2]
theorem encAt_many {α : Type} {W : α → WS → WS} {p : PR α} (h : Enc W p) (l : List α) : EncAt (fun s => l.foldl (fun s x => W x s) s) (pMany p l.length) l := fun s hs => enc_many h l s hs
theorem dec_manyAt {α : Type} {W : α → WS → WS} {p : PR α} (h : Dec W p) {n : Nat} {b r : List UInt8} {l : List α} (hb : pMany p n b = .ok (l, r)) : ∃ b', b = b' ++ r ∧ ∀ s, s.err = 0 → l.foldl (fun s x => W x s) s = ⟨0, s.bs ++ b'⟩ := (dec_many h n b l r hb).2
def wAtP (x : Int × Int) (s : WS) : WS := wAt x.1 x.2 s
theorem enc_sig : Enc wSig pSig := fun x s hs => by
  simp only [wSig] at hs ⊢
  obtain ⟨h2, b2, e2, k2⟩ := enc_list enc_dig 5 x.path _ hs
  obtain ⟨h1, b1, e1, k1⟩ := enc_list enc_dig 68 x.chains _ h2
  obtain ⟨h0, b0, e0, k0⟩ := enc_num (wd := 1) (by decide) x.leaf _ h1
  simp only at e0 e1 e2
  refine ⟨h0, b0 ++ b1 ++ b2, ?_, fun r => ?_⟩
  · rw [e2, e1, e0]; simp only [List.append_assoc]
  · unfold pSig; simp only [List.append_assoc]; rw [pBind_eq (k0 _), pBind_eq (k1 _), pBind_eq (k2 _)]; rfl
theorem dec_sig : Dec wSig pSig := fun b x r h => by
  obtain ⟨v0, r0, h0, h⟩ := pBind_ok h
  obtain ⟨v1, r1, h1, h⟩ := pBind_ok h
  obtain ⟨v2, r2, h2, h⟩ := pBind_ok h
  obtain ⟨rfl, rfl⟩ := pPure_ok h
  obtain ⟨b0, rfl, k0⟩ := dec_num _ _ _ h0
  obtain ⟨b1, rfl, k1⟩ := dec_list dec_dig 68 _ _ _ h1
  obtain ⟨b2, rfl, k2⟩ := dec_list dec_dig 5 _ _ _ h2
  refine ⟨b0 ++ b1 ++ b2, by simp only [List.append_assoc], fun s hs => ?_⟩
  have g0 := k0 s hs
  have g1 := k1 (⟨0, s.bs ++ b0⟩ : WS) rfl
  have g2 := k2 (⟨0, s.bs ++ b0 ++ b1⟩ : WS) rfl
  simp only [wSig] at g0 g1 g2 ⊢
  rw [g0, g1, g2]
  simp only [List.append_assoc]
theorem enc_signed : Enc wSigned pSigned := fun x s hs => by
  simp only [wSigned] at hs ⊢
  obtain ⟨h1, b1, e1, k1⟩ := enc_sig x.sig _ hs
  obtain ⟨h0, b0, e0, k0⟩ := enc_num (wd := 1) (by decide) x.who _ h1
  simp only at e0 e1
  refine ⟨h0, b0 ++ b1, ?_, fun r => ?_⟩
  · rw [e1, e0]; simp only [List.append_assoc]
  · unfold pSigned; simp only [List.append_assoc]; rw [pBind_eq (k0 _), pBind_eq (k1 _)]; rfl
theorem dec_signed : Dec wSigned pSigned := fun b x r h => by
  obtain ⟨v0, r0, h0, h⟩ := pBind_ok h
  obtain ⟨v1, r1, h1, h⟩ := pBind_ok h
  obtain ⟨rfl, rfl⟩ := pPure_ok h
  obtain ⟨b0, rfl, k0⟩ := dec_num _ _ _ h0
  obtain ⟨b1, rfl, k1⟩ := dec_sig _ _ _ h1
  refine ⟨b0 ++ b1, by simp only [List.append_assoc], fun s hs => ?_⟩
  have g0 := k0 s hs
  have g1 := k1 (⟨0, s.bs ++ b0⟩ : WS) rfl
  simp only [wSigned] at g0 g1 ⊢
  rw [g0, g1]
  simp only [List.append_assoc]
theorem enc_at : Enc wAtP pAt := fun x s hs => by
  simp only [wAtP, wAt] at hs ⊢
  obtain ⟨h1, b1, e1, k1⟩ := enc_num (wd := 6) (by decide) x.2 _ hs
  obtain ⟨h0, b0, e0, k0⟩ := enc_num (wd := 4) (by decide) x.1 _ h1
  simp only at e0 e1
  refine ⟨h0, b0 ++ b1, ?_, fun r => ?_⟩
  · rw [e1, e0]; simp only [List.append_assoc]
  · unfold pAt; simp only [List.append_assoc]; rw [pBind_eq (k0 _), pBind_eq (k1 _)]; rfl
theorem dec_at : Dec wAtP pAt := fun b x r h => by
  obtain ⟨v0, r0, h0, h⟩ := pBind_ok h
  obtain ⟨v1, r1, h1, h⟩ := pBind_ok h
  obtain ⟨rfl, rfl⟩ := pPure_ok h
  obtain ⟨b0, rfl, k0⟩ := dec_num _ _ _ h0
  obtain ⟨b1, rfl, k1⟩ := dec_num _ _ _ h1
  refine ⟨b0 ++ b1, by simp only [List.append_assoc], fun s hs => ?_⟩
  have g0 := k0 s hs
  have g1 := k1 (⟨0, s.bs ++ b0⟩ : WS) rfl
  simp only [wAtP, wAt] at g0 g1 ⊢
  rw [g0, g1]
  simp only [List.append_assoc]
theorem enc_qc : Enc wQC pQC := fun x s hs => by
  simp only [wQC] at hs ⊢
  obtain ⟨h2, b2, e2, k2⟩ := enc_list enc_signed 7 x.votes _ hs
  obtain ⟨h1, b1, e1, k1⟩ := enc_dig x.block _ h2
  obtain ⟨h0, b0, e0, k0⟩ := enc_at (x.epoch, x.round) _ h1
  simp only [wAtP] at e0 e1 e2
  refine ⟨h0, b0 ++ b1 ++ b2, ?_, fun r => ?_⟩
  · rw [e2, e1, e0]; simp only [List.append_assoc]
  · unfold pQC; simp only [List.append_assoc]; rw [pBind_eq (k0 _), pBind_eq (k1 _), pBind_eq (k2 _)]; rfl
theorem dec_qc : Dec wQC pQC := fun b x r h => by
  obtain ⟨v0, r0, h0, h⟩ := pBind_ok h
  obtain ⟨v1, r1, h1, h⟩ := pBind_ok h
  obtain ⟨v2, r2, h2, h⟩ := pBind_ok h
  obtain ⟨rfl, rfl⟩ := pPure_ok h
  obtain ⟨b0, rfl, k0⟩ := dec_at _ _ _ h0
  obtain ⟨b1, rfl, k1⟩ := dec_dig _ _ _ h1
  obtain ⟨b2, rfl, k2⟩ := dec_list dec_signed 7 _ _ _ h2
  refine ⟨b0 ++ b1 ++ b2, by simp only [List.append_assoc], fun s hs => ?_⟩
  have g0 := k0 s hs
  have g1 := k1 (⟨0, s.bs ++ b0⟩ : WS) rfl
  have g2 := k2 (⟨0, s.bs ++ b0 ++ b1⟩ : WS) rfl
  simp only [wQC, wAtP] at g0 g1 g2 ⊢
  rw [g0, g1, g2]
  simp only [List.append_assoc]
theorem enc_late : Enc wLate pLate := fun x s hs => by
  simp only [wLate] at hs ⊢
  obtain ⟨h2, b2, e2, k2⟩ := enc_sig x.sig _ hs
  obtain ⟨h1, b1, e1, k1⟩ := enc_num (wd := 6) (by decide) x.high _ h2
  obtain ⟨h0, b0, e0, k0⟩ := enc_num (wd := 1) (by decide) x.who _ h1
  simp only at e0 e1 e2
  refine ⟨h0, b0 ++ b1 ++ b2, ?_, fun r => ?_⟩
  · rw [e2, e1, e0]; simp only [List.append_assoc]
  · unfold pLate; simp only [List.append_assoc]; rw [pBind_eq (k0 _), pBind_eq (k1 _), pBind_eq (k2 _)]; rfl
theorem dec_late : Dec wLate pLate := fun b x r h => by
  obtain ⟨v0, r0, h0, h⟩ := pBind_ok h
  obtain ⟨v1, r1, h1, h⟩ := pBind_ok h
  obtain ⟨v2, r2, h2, h⟩ := pBind_ok h
  obtain ⟨rfl, rfl⟩ := pPure_ok h
  obtain ⟨b0, rfl, k0⟩ := dec_num _ _ _ h0
  obtain ⟨b1, rfl, k1⟩ := dec_num _ _ _ h1
  obtain ⟨b2, rfl, k2⟩ := dec_sig _ _ _ h2
  refine ⟨b0 ++ b1 ++ b2, by simp only [List.append_assoc], fun s hs => ?_⟩
  have g0 := k0 s hs
  have g1 := k1 (⟨0, s.bs ++ b0⟩ : WS) rfl
  have g2 := k2 (⟨0, s.bs ++ b0 ++ b1⟩ : WS) rfl
  simp only [wLate] at g0 g1 g2 ⊢
  rw [g0, g1, g2]
  simp only [List.append_assoc]
theorem enc_tc : Enc wTC pTC := fun x s hs => by
  simp only [wTC] at hs ⊢
  obtain ⟨h1, b1, e1, k1⟩ := enc_list enc_late 7 x.lates _ hs
  obtain ⟨h0, b0, e0, k0⟩ := enc_at (x.epoch, x.round) _ h1
  simp only [wAtP] at e0 e1
  refine ⟨h0, b0 ++ b1, ?_, fun r => ?_⟩
  · rw [e1, e0]; simp only [List.append_assoc]
  · unfold pTC; simp only [List.append_assoc]; rw [pBind_eq (k0 _), pBind_eq (k1 _)]; rfl
theorem dec_tc : Dec wTC pTC := fun b x r h => by
  obtain ⟨v0, r0, h0, h⟩ := pBind_ok h
  obtain ⟨v1, r1, h1, h⟩ := pBind_ok h
  obtain ⟨rfl, rfl⟩ := pPure_ok h
  obtain ⟨b0, rfl, k0⟩ := dec_at _ _ _ h0
  obtain ⟨b1, rfl, k1⟩ := dec_list dec_late 7 _ _ _ h1
  refine ⟨b0 ++ b1, by simp only [List.append_assoc], fun s hs => ?_⟩
  have g0 := k0 s hs
  have g1 := k1 (⟨0, s.bs ++ b0⟩ : WS) rfl
  simp only [wTC, wAtP] at g0 g1 ⊢
  rw [g0, g1]
  simp only [List.append_assoc]
theorem enc_vdr : Enc wVdr pVdr := fun x s hs => by
  simp only [wVdr] at hs ⊢
  obtain ⟨h1, b1, e1, k1⟩ := enc_num (wd := 6) (by decide) x.power _ hs
  obtain ⟨h0, b0, e0, k0⟩ := enc_dig x.key _ h1
  simp only at e0 e1
  refine ⟨h0, b0 ++ b1, ?_, fun r => ?_⟩
  · rw [e1, e0]; simp only [List.append_assoc]
  · unfold pVdr; simp only [List.append_assoc]; rw [pBind_eq (k0 _), pBind_eq (k1 _)]; rfl
theorem dec_vdr : Dec wVdr pVdr := fun b x r h => by
  obtain ⟨v0, r0, h0, h⟩ := pBind_ok h
  obtain ⟨v1, r1, h1, h⟩ := pBind_ok h
  obtain ⟨rfl, rfl⟩ := pPure_ok h
  obtain ⟨b0, rfl, k0⟩ := dec_dig _ _ _ h0
  obtain ⟨b1, rfl, k1⟩ := dec_num _ _ _ h1
  refine ⟨b0 ++ b1, by simp only [List.append_assoc], fun s hs => ?_⟩
  have g0 := k0 s hs
  have g1 := k1 (⟨0, s.bs ++ b0⟩ : WS) rfl
  simp only [wVdr] at g0 g1 ⊢
  rw [g0, g1]
  simp only [List.append_assoc]
theorem enc_block : Enc wBlock pBlock := fun x s hs => by
  simp only [wBlock] at hs ⊢
  obtain ⟨h4, b4, e4, k4⟩ := enc_list enc_vdr 7 x.next _ hs
  obtain ⟨h3, b3, e3, k3⟩ := enc_list (enc_bytes (most := 16)) 4 x.payload _ h4
  obtain ⟨h2, b2, e2, k2⟩ := enc_qc x.justify _ h3
  obtain ⟨h1, b1, e1, k1⟩ := enc_dig x.parent _ h2
  obtain ⟨h0, b0, e0, k0⟩ := enc_at (x.epoch, x.round) _ h1
  simp only [wAtP] at e0 e1 e2 e3 e4
  refine ⟨h0, b0 ++ b1 ++ b2 ++ b3 ++ b4, ?_, fun r => ?_⟩
  · rw [e4, e3, e2, e1, e0]; simp only [List.append_assoc]
  · unfold pBlock; simp only [List.append_assoc]; rw [pBind_eq (k0 _), pBind_eq (k1 _), pBind_eq (k2 _), pBind_eq (k3 _), pBind_eq (k4 _)]; rfl
theorem dec_block : Dec wBlock pBlock := fun b x r h => by
  obtain ⟨v0, r0, h0, h⟩ := pBind_ok h
  obtain ⟨v1, r1, h1, h⟩ := pBind_ok h
  obtain ⟨v2, r2, h2, h⟩ := pBind_ok h
  obtain ⟨v3, r3, h3, h⟩ := pBind_ok h
  obtain ⟨v4, r4, h4, h⟩ := pBind_ok h
  obtain ⟨rfl, rfl⟩ := pPure_ok h
  obtain ⟨b0, rfl, k0⟩ := dec_at _ _ _ h0
  obtain ⟨b1, rfl, k1⟩ := dec_dig _ _ _ h1
  obtain ⟨b2, rfl, k2⟩ := dec_qc _ _ _ h2
  obtain ⟨b3, rfl, k3⟩ := dec_list (dec_bytes (most := 16)) 4 _ _ _ h3
  obtain ⟨b4, rfl, k4⟩ := dec_list dec_vdr 7 _ _ _ h4
  refine ⟨b0 ++ b1 ++ b2 ++ b3 ++ b4, by simp only [List.append_assoc], fun s hs => ?_⟩
  have g0 := k0 s hs
  have g1 := k1 (⟨0, s.bs ++ b0⟩ : WS) rfl
  have g2 := k2 (⟨0, s.bs ++ b0 ++ b1⟩ : WS) rfl
  have g3 := k3 (⟨0, s.bs ++ b0 ++ b1 ++ b2⟩ : WS) rfl
  have g4 := k4 (⟨0, s.bs ++ b0 ++ b1 ++ b2 ++ b3⟩ : WS) rfl
  simp only [wBlock, wAtP] at g0 g1 g2 g3 g4 ⊢
  rw [g0, g1, g2, g3, g4]
  simp only [List.append_assoc]
theorem enc_vote : Enc wVote pVote := fun x s hs => by
  simp only [wVote] at hs ⊢
  obtain ⟨h2, b2, e2, k2⟩ := enc_signed x.sender _ hs
  obtain ⟨h1, b1, e1, k1⟩ := enc_dig x.block _ h2
  obtain ⟨h0, b0, e0, k0⟩ := enc_at (x.epoch, x.round) _ h1
  simp only [wAtP] at e0 e1 e2
  refine ⟨h0, b0 ++ b1 ++ b2, ?_, fun r => ?_⟩
  · rw [e2, e1, e0]; simp only [List.append_assoc]
  · unfold pVote; simp only [List.append_assoc]; rw [pBind_eq (k0 _), pBind_eq (k1 _), pBind_eq (k2 _)]; rfl
theorem dec_vote : Dec wVote pVote := fun b x r h => by
  obtain ⟨v0, r0, h0, h⟩ := pBind_ok h
  obtain ⟨v1, r1, h1, h⟩ := pBind_ok h
  obtain ⟨v2, r2, h2, h⟩ := pBind_ok h
  obtain ⟨rfl, rfl⟩ := pPure_ok h
  obtain ⟨b0, rfl, k0⟩ := dec_at _ _ _ h0
  obtain ⟨b1, rfl, k1⟩ := dec_dig _ _ _ h1
  obtain ⟨b2, rfl, k2⟩ := dec_signed _ _ _ h2
  refine ⟨b0 ++ b1 ++ b2, by simp only [List.append_assoc], fun s hs => ?_⟩
  have g0 := k0 s hs
  have g1 := k1 (⟨0, s.bs ++ b0⟩ : WS) rfl
  have g2 := k2 (⟨0, s.bs ++ b0 ++ b1⟩ : WS) rfl
  simp only [wVote, wAtP] at g0 g1 g2 ⊢
  rw [g0, g1, g2]
  simp only [List.append_assoc]
theorem enc_tmo : Enc wTmo pTmo := fun x s hs => by
  simp only [wTmo] at hs ⊢
  obtain ⟨h3, b3, e3, k3⟩ := enc_signed x.sender _ hs
  obtain ⟨h2, b2, e2, k2⟩ := enc_tc x.last _ h3
  obtain ⟨h1, b1, e1, k1⟩ := enc_qc x.high _ h2
  obtain ⟨h0, b0, e0, k0⟩ := enc_at (x.epoch, x.round) _ h1
  simp only [wAtP] at e0 e1 e2 e3
  refine ⟨h0, b0 ++ b1 ++ b2 ++ b3, ?_, fun r => ?_⟩
  · rw [e3, e2, e1, e0]; simp only [List.append_assoc]
  · unfold pTmo; simp only [List.append_assoc]; rw [pBind_eq (k0 _), pBind_eq (k1 _), pBind_eq (k2 _), pBind_eq (k3 _)]; rfl
theorem dec_tmo : Dec wTmo pTmo := fun b x r h => by
  obtain ⟨v0, r0, h0, h⟩ := pBind_ok h
  obtain ⟨v1, r1, h1, h⟩ := pBind_ok h
  obtain ⟨v2, r2, h2, h⟩ := pBind_ok h
  obtain ⟨v3, r3, h3, h⟩ := pBind_ok h
  obtain ⟨rfl, rfl⟩ := pPure_ok h
  obtain ⟨b0, rfl, k0⟩ := dec_at _ _ _ h0
  obtain ⟨b1, rfl, k1⟩ := dec_qc _ _ _ h1
  obtain ⟨b2, rfl, k2⟩ := dec_tc _ _ _ h2
  obtain ⟨b3, rfl, k3⟩ := dec_signed _ _ _ h3
  refine ⟨b0 ++ b1 ++ b2 ++ b3, by simp only [List.append_assoc], fun s hs => ?_⟩
  have g0 := k0 s hs
  have g1 := k1 (⟨0, s.bs ++ b0⟩ : WS) rfl
  have g2 := k2 (⟨0, s.bs ++ b0 ++ b1⟩ : WS) rfl
  have g3 := k3 (⟨0, s.bs ++ b0 ++ b1 ++ b2⟩ : WS) rfl
  simp only [wTmo, wAtP] at g0 g1 g2 g3 ⊢
  rw [g0, g1, g2, g3]
  simp only [List.append_assoc]
theorem enc_prop : Enc wProp pProp := fun x s hs => by
  simp only [wProp] at hs ⊢
  obtain ⟨h2, b2, e2, k2⟩ := enc_signed x.sender _ hs
  obtain ⟨h1, b1, e1, k1⟩ := enc_tc x.last _ h2
  obtain ⟨h0, b0, e0, k0⟩ := enc_block x.block _ h1
  refine ⟨h0, b0 ++ b1 ++ b2, ?_, fun r => ?_⟩
  · rw [e2, e1, e0]; simp only [List.append_assoc]
  · unfold pProp; simp only [List.append_assoc]; rw [pBind_eq (k0 _), pBind_eq (k1 _), pBind_eq (k2 _)]; rfl
theorem dec_prop : Dec wProp pProp := fun b x r h => by
  obtain ⟨v0, r0, h0, h⟩ := pBind_ok h
  obtain ⟨v1, r1, h1, h⟩ := pBind_ok h
  obtain ⟨v2, r2, h2, h⟩ := pBind_ok h
  obtain ⟨rfl, rfl⟩ := pPure_ok h
  obtain ⟨b0, rfl, k0⟩ := dec_block _ _ _ h0
  obtain ⟨b1, rfl, k1⟩ := dec_tc _ _ _ h1
  obtain ⟨b2, rfl, k2⟩ := dec_signed _ _ _ h2
  refine ⟨b0 ++ b1 ++ b2, by simp only [List.append_assoc], fun s hs => ?_⟩
  have g0 := k0 s hs
  have g1 := k1 (⟨0, s.bs ++ b0⟩ : WS) rfl
  have g2 := k2 (⟨0, s.bs ++ b0 ++ b1⟩ : WS) rfl
  simp only [wProp] at g0 g1 g2 ⊢
  rw [g0, g1, g2]
  simp only [List.append_assoc]
theorem enc_chg (x : Chg) (h3 : x.blocks.length = 3) : EncAt (wChg x) pChg x := fun s hs => by
  simp only [wChg] at hs ⊢
  obtain ⟨h1, b1, e1, k1⟩ := enc_qc x.qc _ hs
  obtain ⟨h0, b0, e0, k0⟩ := encAt_many enc_block x.blocks _ h1
  rw [h3] at k0
  refine ⟨h0, b0 ++ b1, ?_, fun r => ?_⟩
  · rw [e1, e0]; simp only [List.append_assoc]
  · unfold pChg; simp only [List.append_assoc]; rw [pBind_eq (k0 _), pBind_eq (k1 _)]; rfl
theorem dec_chg : Dec wChg pChg := fun b x r h => by
  obtain ⟨v0, r0, h0, h⟩ := pBind_ok h
  obtain ⟨v1, r1, h1, h⟩ := pBind_ok h
  obtain ⟨rfl, rfl⟩ := pPure_ok h
  obtain ⟨b0, rfl, k0⟩ := dec_manyAt dec_block h0
  obtain ⟨b1, rfl, k1⟩ := dec_qc _ _ _ h1
  refine ⟨b0 ++ b1, by simp only [List.append_assoc], fun s hs => ?_⟩
  have g0 := k0 s hs
  have g1 := k1 (⟨0, s.bs ++ b0⟩ : WS) rfl
  simp only [wChg] at g0 g1 ⊢
  rw [g0, g1]
  simp only [List.append_assoc]
theorem pChg_three {b r : List UInt8} {x : Chg} (h : pChg b = .ok (x, r)) : x.blocks.length = 3 := by
  obtain ⟨l, r1, h1, h⟩ := pBind_ok h
  obtain ⟨q, r2, h2, h⟩ := pBind_ok h
  obtain ⟨rfl, rfl⟩ := pPure_ok h
  exact (dec_many dec_block 3 _ _ _ h1).1
theorem encAt_map {α β : Type} {f : WS → WS} {p : PR α} {x : α} {g : α → β} (h : EncAt f p x) : EncAt f (pBind p fun v => pPure (g v)) (g x) := fun s hs => by
  obtain ⟨h1, b, e, k⟩ := h s hs
  exact ⟨h1, b, e, fun r => by rw [pBind_eq (k r)]; rfl⟩
theorem enc_body (m : Msg) (h3 : m.chg.blocks.length = 3) (k1 : 1 ≤ m.kind) (k6 : m.kind ≤ 6) : EncAt (wBody m) (pBody m.kind) (plainM m) := by
  unfold wBody pBody plainM
  split
  · exact encAt_map (enc_vote m.vote)
  split
  · exact encAt_map (enc_tmo m.tmo)
  split
  · exact encAt_map (enc_prop m.prop)
  split
  · exact encAt_bind (q := fun d => pBind pDig fun e => pPure ({ msg0 m.kind with wantFrom := d, wantBlock := e } : Msg)) (enc_dig m.wantFrom) (encAt_map (g := fun e => ({ msg0 m.kind with wantFrom := m.wantFrom, wantBlock := e } : Msg)) (enc_dig m.wantBlock))
  split
  · exact encAt_map (enc_block m.reply)
  rw [if_pos (show m.kind = 6 by omega), if_pos (show m.kind = 6 by omega)]
  exact encAt_map (enc_chg m.chg h3)
theorem enc_msg (m : Msg) (h3 : m.chg.blocks.length = 3) (k1 : 1 ≤ m.kind) (k6 : m.kind ≤ 6) : EncAt (wMsg m) pMsg (plainM m) := by
  exact encAt_bind (f := wNum m.kind 1) (g := wBody m) (q := pBody) (enc_num (wd := 1) (by decide) m.kind) (enc_body m h3 k1 k6)
theorem dec_map {α β : Type} {W : α → WS → WS} {p : PR α} (h : Dec W p) {g : α → β} {b r : List UInt8} {y : β} (hb : pBind p (fun v => pPure (g v)) b = .ok (y, r)) : ∃ x b', y = g x ∧ b = b' ++ r ∧ p b = .ok (x, r) ∧ ∀ s, s.err = 0 → W x s = ⟨0, s.bs ++ b'⟩ := by
  obtain ⟨x, r1, h1, h2⟩ := pBind_ok hb
  obtain ⟨rfl, rfl⟩ := pPure_ok h2
  obtain ⟨b', rfl, k⟩ := h _ _ _ h1
  exact ⟨x, b', rfl, rfl, h1, k⟩
theorem dec_body (k : Int) (b r : List UInt8) (m : Msg) (h : pBody k b = .ok (m, r)) : m.kind = k ∧ 1 ≤ k ∧ k ≤ 6 ∧ plainM m = m ∧ m.chg.blocks.length = 3 ∧ ∃ b', b = b' ++ r ∧ ∀ s, s.err = 0 → wBody m s = ⟨0, s.bs ++ b'⟩ := by
  unfold pBody at h
  split at h
  · rename_i hk; subst hk
    obtain ⟨x, b', rfl, rfl, _, k⟩ := dec_map dec_vote h
    exact ⟨rfl, by decide, by decide, rfl, rfl, b', rfl, k⟩
  split at h
  · rename_i _ hk; subst hk
    obtain ⟨x, b', rfl, rfl, _, k⟩ := dec_map dec_tmo h
    exact ⟨rfl, by decide, by decide, rfl, rfl, b', rfl, k⟩
  split at h
  · rename_i _ _ hk; subst hk
    obtain ⟨x, b', rfl, rfl, _, k⟩ := dec_map dec_prop h
    exact ⟨rfl, by decide, by decide, rfl, rfl, b', rfl, k⟩
  split at h
  · rename_i _ _ _ hk; subst hk
    obtain ⟨d, r1, h1, h2⟩ := pBind_ok h
    obtain ⟨x, b2, rfl, rfl, _, k2⟩ := dec_map dec_dig h2
    obtain ⟨b1, rfl, k1⟩ := dec_dig _ _ _ h1
    refine ⟨rfl, by decide, by decide, rfl, rfl, b1 ++ b2, by simp only [List.append_assoc], fun s hs => ?_⟩
    show wDig x (wDig d s) = _
    rw [k1 s hs, k2 _ rfl]; simp only [List.append_assoc]
  split at h
  · rename_i _ _ _ _ hk; subst hk
    obtain ⟨x, b', rfl, rfl, _, k⟩ := dec_map dec_block h
    exact ⟨rfl, by decide, by decide, rfl, rfl, b', rfl, k⟩
  split at h
  · rename_i _ _ _ _ _ hk; subst hk
    obtain ⟨x, b', rfl, rfl, hp, k⟩ := dec_map dec_chg h
    exact ⟨rfl, by decide, by decide, rfl, pChg_three hp, b', rfl, k⟩
  · cases h
theorem dec_msg (b r : List UInt8) (m : Msg) (h : pMsg b = .ok (m, r)) : 1 ≤ m.kind ∧ m.kind ≤ 6 ∧ plainM m = m ∧ m.chg.blocks.length = 3 ∧ (∃ c t, b = c :: t ∧ m.kind = (c.toNat : Int)) ∧ ∃ b', b = b' ++ r ∧ ∀ s, s.err = 0 → wMsg m s = ⟨0, s.bs ++ b'⟩ := by
  obtain ⟨k, r1, h1, h2⟩ := pBind_ok h
  obtain ⟨hk, k1, k6, hp, h3, b2, rfl, e2⟩ := dec_body _ _ _ _ h2
  obtain ⟨j, hj, hj2, hb⟩ := pNum_ok h1
  obtain ⟨b1, rfl, e1⟩ := dec_num _ _ _ h1
  subst hk
  refine ⟨k1, k6, hp, h3, ?_, b1 ++ b2, by simp only [List.append_assoc], fun s hs => ?_⟩
  · rw [hb, hj]
    refine ⟨UInt8.ofNat j, b2 ++ r, ?_, ?_⟩
    · rw [beN_succ, byteAt_nat]; simp [beN]
    · rw [UInt8.toNat_ofNat', Nat.mod_eq_of_lt (by omega)]
  · have e := e1 s hs
    simp only at e
    unfold wMsg
    rw [e, e2 _ rfl]; simp only [List.append_assoc]
/-- All bytes of what was written. -/
theorem pAll_enc {β : Type} {f : WS → WS} {p : PR β} {y : β} (h : EncAt f p y) (he : (f ⟨0, []⟩).err = 0) : pAll p (f ⟨0, []⟩).bs = .ok y := by
  obtain ⟨_, b, e, k⟩ := h _ he
  have := k []
  rw [List.append_nil] at this
  have e' : (f ⟨0, []⟩).bs = b := e.trans (by simp)
  rw [e', pAll, this]; rfl
theorem pAll_ok {β : Type} {p : PR β} {b : List UInt8} {y : β} (h : pAll p b = .ok y) : p b = .ok (y, []) := by
  unfold pAll at h
  cases hp : p b with
  | error e => rw [hp] at h; cases h
  | ok x =>
    rw [hp] at h
    obtain ⟨a, r⟩ := x
    by_cases hr : r = []
    · simp only [hr, if_true, Except.ok.injEq] at h; rw [h, hr]
    · simp only [hr, if_false] at h; cases h
theorem pAll_cut {β : Type} {p : PR β} {b : List UInt8} {y : β} (h : pAll p b = .ok y) (hl : Loc p) {k : Nat} (hk : k < b.length) : pAll p (b.take k) = .error 2 := by
  obtain ⟨b', e, _, s⟩ := hl _ _ _ (pAll_ok h)
  rw [List.append_nil] at e; subst e
  rw [pAll, s k hk]
theorem pAll_more {β : Type} {p : PR β} {b m : List UInt8} {y : β} (h : pAll p b = .ok y) (hl : Loc p) (hm : m ≠ []) : pAll p (b ++ m) = .error 3 := by
  obtain ⟨b', e, k, _⟩ := hl _ _ _ (pAll_ok h)
  rw [List.append_nil] at e; subst e
  rw [pAll, k m]
  simp only [hm, if_false]
end Go.Proofs.YtffkjjakceojfaaDoor

