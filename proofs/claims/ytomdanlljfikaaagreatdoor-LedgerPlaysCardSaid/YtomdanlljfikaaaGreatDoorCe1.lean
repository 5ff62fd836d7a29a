/- Part 1. What is proved: see the last part: for every input the law returns true, and the input reads as it did. -/
import Derived.WalkKit
import Derived.KernelRfl
import Derived.Test.YtomdanlljfikaaaGreatDoorProg
import Derived.OrdersHeld
import Derived.StillTail
import Derived.Deep.MidRow
import Derived.OrdersIn
import Derived.TacticsIn
import Derived.RangeFuncRecord
import Derived.RangeFuncSeq
import Derived.Laws.BytesArg
import Derived.ChangeKeysEq
namespace Go.Proofs.YtomdanlljfikaaaGreatDoor
open Go
set_option linter.unusedVariables false
set_option linter.unusedSimpArgs false
set_option linter.unusedSectionVars false
set_option maxHeartbeats 400000
section
def szT (P : Program) (T : TypeId) : Option Nat := (P.info? T).map (·.size)
def rowT (P : Program) (T : TypeId) : Option Bool := (P.underlying T).map fun d => match d with | .struct _ | .array _ _ => true | _ => false
def zeroT (P : Program) (T : TypeId) : Option Value := (P.info? T).bind (·.zero)
def sliceT (P : Program) (T : TypeId) : Option TypeId := (P.underlying T).bind fun d => match d with | .slice e => some e | _ => none
def arrT (P : Program) (T : TypeId) : Option (Nat × TypeId) := (P.underlying T).bind fun d => match d with | .array n e => some (n, e) | _ => none
def foff (P : Program) (s f : Nat) : Option Nat := (P.underlying s).bind fun d => match d with
  | .struct fs => (fs[f]?).bind fun x => if (P.info? x.type).map (·.size) = some 0 then none else (P.info? x.type).map fun _ => x.offset
  | _ => none
def okCall (P : Program) (f : FuncId) : Bool := match P.funcs[f]? with
  | some fn => fn.body.isSome && !(fn.name == "runtime.NumGoroutine")
  | none => false
def zcT (P : Program) (T : TypeId) : Option (List Value) := (zeroT P T).map fun z => z.cells.toList
theorem zcT_some {P : Program} {T : TypeId} {cs : List Value} (h : zcT P T = some cs) : ∃ z, zeroT P T = some z ∧ z.cells.toList = cs := by
  unfold zcT at h
  cases hz : zeroT P T with
  | none => simp [hz] at h
  | some z => exact ⟨z, rfl, by simpa [hz] using h⟩
def zD : List Value := List.replicate 16 (.int .u8 0)
structure ElemT (P : Program) (t e size bytes : Nat) : Prop where
  sl : P.underlying t = some (.slice e)
  info : ∃ i z, P.info? e = some i ∧ i.zero = some z ∧ i.size = size ∧ i.bytes = bytes ∧ z.cells.size = size
  pos : 0 < size
def elemB (P : Program) (t e size bytes : Nat) : Bool :=
  (match P.underlying t with | some (.slice e') => Nat.beq e' e | _ => false) && (match P.info? e with
    | some i => Nat.beq i.size size && Nat.beq i.bytes bytes && (match i.zero with | some z => Nat.beq z.cells.size size | none => false)
    | none => false) && Nat.blt 0 size
theorem elemT_of {P : Program} {t e size bytes : Nat} (h : elemB P t e size bytes = true) : ElemT P t e size bytes := by
  simp only [elemB, Bool.and_eq_true] at h
  obtain ⟨⟨h1, h2⟩, h3⟩ := h
  refine ⟨?_, ?_, by rwa [Nat.blt_eq] at h3⟩
  · cases hu : P.underlying t with
    | none => simp [hu] at h1
    | some dsc =>
      cases dsc <;> simp [hu] at h1
      rw [h1]
  · cases hi : P.info? e with
    | none => simp [hi] at h2
    | some i =>
      simp only [hi, Bool.and_eq_true] at h2
      obtain ⟨⟨h4, h5⟩, h6⟩ := h2
      cases hz : i.zero with
      | none => simp [hz] at h6
      | some z =>
        simp only [hz] at h6
        exact ⟨i, z, rfl, hz, Nat.eq_of_beq_eq_true h4, Nat.eq_of_beq_eq_true h5, Nat.eq_of_beq_eq_true h6⟩
def placesT (P : Program) (T : TypeId) : Option (List (Nat × Nat)) := (P.underlying T).bind fun d => match d with
  | .struct fs => fs.toList.mapM fun f => (szT P f.type).map fun s => (f.offset, s)
  | _ => none
def ifcT (P : Program) (T : TypeId) : Bool := match P.underlying T with | some (.interface _) => true | _ => false
theorem run_ifcT {P : Program} {T : TypeId} (h : ifcT P T = true) : ∃ ms, P.underlying T = some (.interface ms) := by
  unfold ifcT at h
  cases hu : P.underlying T with
  | none => simp [hu] at h
  | some d => cases d <;> simp [hu] at h ⊢
class FO (P : Program) (s f : Nat) (k : outParam Nat) : Prop where h : foff P s f = some k
class SZ (P : Program) (T : Nat) (s : outParam Nat) : Prop where h : szT P T = some s
class RO (P : Program) (T : Nat) : Prop where h : rowT P T = some false
class RA (P : Program) (T : Nat) : Prop where h : rowT P T = some true
class ZC (P : Program) (T : Nat) (cs : outParam (List Value)) : Prop where h : zcT P T = some cs
class SLT (P : Program) (T : Nat) (e : outParam Nat) : Prop where h : sliceT P T = some e
class ART (P : Program) (T : Nat) (m e : outParam Nat) : Prop where h : arrT P T = some (m, e)
class UNT (P : Program) (T : Nat) (d : outParam TypeDesc) : Prop where h : P.underlying T = some d
class PLT (P : Program) (T : Nat) (pl : outParam (List (Nat × Nat))) : Prop where h : placesT P T = some pl
class CLT (P : Program) (f : Nat) : Prop where h : okCall P f = true
class ELT (P : Program) (t : Nat) (e size bytes : outParam Nat) : Prop where h : ElemT P t e size bytes
class IFT (P : Program) (T : Nat) : Prop where h : ifcT P T = true
end
section
namespace Ty
instance : SZ Tryz.prog 3 1 := ⟨by kernel_rfl⟩
theorem row_3 : rowT Tryz.prog 3 = some false := by kernel_rfl
instance : RO Tryz.prog 3 := ⟨row_3⟩
theorem sz_4 : szT Tryz.prog 4 = some 1 := by kernel_rfl
instance : SZ Tryz.prog 4 1 := ⟨sz_4⟩
theorem row_4 : rowT Tryz.prog 4 = some false := by kernel_rfl
instance : RO Tryz.prog 4 := ⟨row_4⟩
theorem sz_5 : szT Tryz.prog 5 = some 1 := by kernel_rfl
instance : SZ Tryz.prog 5 1 := ⟨sz_5⟩
theorem row_5 : rowT Tryz.prog 5 = some false := by kernel_rfl
instance : RO Tryz.prog 5 := ⟨row_5⟩
theorem sz_9 : szT Tryz.prog 9 = some 1 := by kernel_rfl
instance : SZ Tryz.prog 9 1 := ⟨sz_9⟩
theorem row_9 : rowT Tryz.prog 9 = some false := by kernel_rfl
instance : RO Tryz.prog 9 := ⟨row_9⟩
instance : SZ Tryz.prog 23 2 := ⟨by kernel_rfl⟩
instance : RA Tryz.prog 23 := ⟨by kernel_rfl⟩
instance : SZ Tryz.prog 25 1 := ⟨by kernel_rfl⟩
instance : RO Tryz.prog 25 := ⟨by kernel_rfl⟩
instance : SZ Tryz.prog 27 1 := ⟨by kernel_rfl⟩
theorem row_27 : rowT Tryz.prog 27 = some false := by kernel_rfl
instance : RO Tryz.prog 27 := ⟨row_27⟩
instance : SZ Tryz.prog 30 1 := ⟨by kernel_rfl⟩
instance : RO Tryz.prog 30 := ⟨by kernel_rfl⟩
instance : SZ Tryz.prog 33 1 := ⟨by kernel_rfl⟩
instance : RO Tryz.prog 33 := ⟨by kernel_rfl⟩
instance : SZ Tryz.prog 34 1 := ⟨by kernel_rfl⟩
instance : RO Tryz.prog 34 := ⟨by kernel_rfl⟩
theorem sz_36 : szT Tryz.prog 36 = some 6 := by kernel_rfl
instance : SZ Tryz.prog 36 6 := ⟨sz_36⟩
theorem row_36 : rowT Tryz.prog 36 = some true := by kernel_rfl
instance : RA Tryz.prog 36 := ⟨row_36⟩
theorem sz_38 : szT Tryz.prog 38 = some 16 := by kernel_rfl
instance : SZ Tryz.prog 38 16 := ⟨sz_38⟩
theorem row_38 : rowT Tryz.prog 38 = some true := by kernel_rfl
instance : RA Tryz.prog 38 := ⟨row_38⟩
instance : SZ Tryz.prog 39 1 := ⟨by kernel_rfl⟩
instance : RO Tryz.prog 39 := ⟨by kernel_rfl⟩
theorem sz_41 : szT Tryz.prog 41 = some 19 := by kernel_rfl
instance : SZ Tryz.prog 41 19 := ⟨sz_41⟩
theorem row_41 : rowT Tryz.prog 41 = some true := by kernel_rfl
instance : RA Tryz.prog 41 := ⟨row_41⟩
instance : SZ Tryz.prog 42 1 := ⟨by kernel_rfl⟩
instance : RO Tryz.prog 42 := ⟨by kernel_rfl⟩
instance : SZ Tryz.prog 43 1 := ⟨by kernel_rfl⟩
instance : RO Tryz.prog 43 := ⟨by kernel_rfl⟩
theorem sz_45 : szT Tryz.prog 45 = some 39 := by kernel_rfl
instance : SZ Tryz.prog 45 39 := ⟨sz_45⟩
theorem row_45 : rowT Tryz.prog 45 = some true := by kernel_rfl
instance : RA Tryz.prog 45 := ⟨row_45⟩
theorem sz_47 : szT Tryz.prog 47 = some 58 := by kernel_rfl
instance : SZ Tryz.prog 47 58 := ⟨sz_47⟩
theorem row_47 : rowT Tryz.prog 47 = some true := by kernel_rfl
instance : RA Tryz.prog 47 := ⟨row_47⟩
theorem sz_49 : szT Tryz.prog 49 = some 1 := by kernel_rfl
instance : SZ Tryz.prog 49 1 := ⟨sz_49⟩
theorem row_49 : rowT Tryz.prog 49 = some false := by kernel_rfl
instance : RO Tryz.prog 49 := ⟨row_49⟩
theorem sz_54 : szT Tryz.prog 54 = some 64 := by kernel_rfl
instance : SZ Tryz.prog 54 64 := ⟨sz_54⟩
theorem row_54 : rowT Tryz.prog 54 = some true := by kernel_rfl
instance : RA Tryz.prog 54 := ⟨row_54⟩
instance : SZ Tryz.prog 59 1 := ⟨by kernel_rfl⟩
instance : RO Tryz.prog 59 := ⟨by kernel_rfl⟩
instance : SZ Tryz.prog 68 1 := ⟨by kernel_rfl⟩
instance : RO Tryz.prog 68 := ⟨by kernel_rfl⟩
instance : SZ Tryz.prog 70 6 := ⟨by kernel_rfl⟩
instance : RA Tryz.prog 70 := ⟨by kernel_rfl⟩
instance : SZ Tryz.prog 76 1 := ⟨by kernel_rfl⟩
instance : RO Tryz.prog 76 := ⟨by kernel_rfl⟩
instance : SZ Tryz.prog 78 5 := ⟨by kernel_rfl⟩
instance : RA Tryz.prog 78 := ⟨by kernel_rfl⟩
instance : SZ Tryz.prog 82 1 := ⟨by kernel_rfl⟩
instance : RO Tryz.prog 82 := ⟨by kernel_rfl⟩
theorem sz_84 : szT Tryz.prog 84 = some 3 := by kernel_rfl
instance : SZ Tryz.prog 84 3 := ⟨sz_84⟩
theorem row_84 : rowT Tryz.prog 84 = some true := by kernel_rfl
instance : RA Tryz.prog 84 := ⟨row_84⟩
theorem sz_86 : szT Tryz.prog 86 = some 4 := by kernel_rfl
instance : SZ Tryz.prog 86 4 := ⟨sz_86⟩
theorem row_86 : rowT Tryz.prog 86 = some true := by kernel_rfl
instance : RA Tryz.prog 86 := ⟨row_86⟩
theorem sz_92 : szT Tryz.prog 92 = some 18 := by kernel_rfl
instance : SZ Tryz.prog 92 18 := ⟨sz_92⟩
theorem row_92 : rowT Tryz.prog 92 = some true := by kernel_rfl
instance : RA Tryz.prog 92 := ⟨row_92⟩
instance : SZ Tryz.prog 97 1 := ⟨by kernel_rfl⟩
instance : RO Tryz.prog 97 := ⟨by kernel_rfl⟩
instance : SZ Tryz.prog 99 4 := ⟨by kernel_rfl⟩
instance : RA Tryz.prog 99 := ⟨by kernel_rfl⟩
instance : SZ Tryz.prog 109 1 := ⟨by kernel_rfl⟩
instance : RO Tryz.prog 109 := ⟨by kernel_rfl⟩
instance : SZ Tryz.prog 111 3 := ⟨by kernel_rfl⟩
instance : RA Tryz.prog 111 := ⟨by kernel_rfl⟩
instance : SZ Tryz.prog 114 1 := ⟨by kernel_rfl⟩
instance : RA Tryz.prog 114 := ⟨by kernel_rfl⟩
instance : SZ Tryz.prog 126 1 := ⟨by kernel_rfl⟩
instance : RO Tryz.prog 126 := ⟨by kernel_rfl⟩
instance : SZ Tryz.prog 132 2 := ⟨by kernel_rfl⟩
instance : RA Tryz.prog 132 := ⟨by kernel_rfl⟩
instance : SZ Tryz.prog 135 1 := ⟨by kernel_rfl⟩
instance : RO Tryz.prog 135 := ⟨by kernel_rfl⟩
theorem sz_142 : szT Tryz.prog 142 = some 32 := by kernel_rfl
instance : SZ Tryz.prog 142 32 := ⟨sz_142⟩
theorem row_142 : rowT Tryz.prog 142 = some true := by kernel_rfl
instance : RA Tryz.prog 142 := ⟨row_142⟩
instance : SZ Tryz.prog 145 1 := ⟨by kernel_rfl⟩
instance : RO Tryz.prog 145 := ⟨by kernel_rfl⟩
theorem sz_152 : szT Tryz.prog 152 = some 17 := by kernel_rfl
instance : SZ Tryz.prog 152 17 := ⟨sz_152⟩
theorem row_152 : rowT Tryz.prog 152 = some true := by kernel_rfl
instance : RA Tryz.prog 152 := ⟨row_152⟩
instance : SZ Tryz.prog 160 1 := ⟨by kernel_rfl⟩
instance : RA Tryz.prog 160 := ⟨by kernel_rfl⟩
instance : SZ Tryz.prog 173 1 := ⟨by kernel_rfl⟩
instance : RA Tryz.prog 173 := ⟨by kernel_rfl⟩
instance : SZ Tryz.prog 184 2 := ⟨by kernel_rfl⟩
instance : RA Tryz.prog 184 := ⟨by kernel_rfl⟩
instance : SZ Tryz.prog 187 1 := ⟨by kernel_rfl⟩
instance : RO Tryz.prog 187 := ⟨by kernel_rfl⟩
theorem sz_188 : szT Tryz.prog 188 = some 1 := by kernel_rfl
instance : SZ Tryz.prog 188 1 := ⟨sz_188⟩
theorem row_188 : rowT Tryz.prog 188 = some false := by kernel_rfl
instance : RO Tryz.prog 188 := ⟨row_188⟩
theorem sz_189 : szT Tryz.prog 189 = some 64 := by kernel_rfl
instance : SZ Tryz.prog 189 64 := ⟨sz_189⟩
theorem row_189 : rowT Tryz.prog 189 = some true := by kernel_rfl
instance : RA Tryz.prog 189 := ⟨row_189⟩
instance : SZ Tryz.prog 190 8 := ⟨by kernel_rfl⟩
instance : RA Tryz.prog 190 := ⟨by kernel_rfl⟩
instance : SZ Tryz.prog 193 2 := ⟨by kernel_rfl⟩
instance : RA Tryz.prog 193 := ⟨by kernel_rfl⟩
theorem sz_219 : szT Tryz.prog 219 = some 8 := by kernel_rfl
instance : SZ Tryz.prog 219 8 := ⟨sz_219⟩
theorem row_219 : rowT Tryz.prog 219 = some true := by kernel_rfl
instance : RA Tryz.prog 219 := ⟨row_219⟩
instance : SZ Tryz.prog 222 10 := ⟨by kernel_rfl⟩
instance : RA Tryz.prog 222 := ⟨by kernel_rfl⟩
instance : SZ Tryz.prog 252 1 := ⟨by kernel_rfl⟩
instance : RO Tryz.prog 252 := ⟨by kernel_rfl⟩
instance : SZ Tryz.prog 286 1 := ⟨by kernel_rfl⟩
instance : RA Tryz.prog 286 := ⟨by kernel_rfl⟩
instance : ZC Tryz.prog 3 ([.int .i64 0]) := ⟨by kernel_rfl⟩
instance : ZC Tryz.prog 4 ([.bool false]) := ⟨by kernel_rfl⟩
theorem zc_5 : zcT Tryz.prog 5 = some ([.int .u8 0]) := by kernel_rfl
instance : ZC Tryz.prog 5 ([.int .u8 0]) := ⟨zc_5⟩
theorem zc_9 : zcT Tryz.prog 9 = some ([.string ByteArray.empty]) := by kernel_rfl
instance : ZC Tryz.prog 9 ([.string ByteArray.empty]) := ⟨zc_9⟩
instance : ZC Tryz.prog 23 ((List.replicate 2 (.int .i64 0))) := ⟨by kernel_rfl⟩
instance : ZC Tryz.prog 25 ([.pointer none]) := ⟨by kernel_rfl⟩
instance : ZC Tryz.prog 27 ([.nilIface]) := ⟨by kernel_rfl⟩
instance : ZC Tryz.prog 30 ([.pointer none]) := ⟨by kernel_rfl⟩
instance : ZC Tryz.prog 33 ([.slice none 0 0]) := ⟨by kernel_rfl⟩
instance : ZC Tryz.prog 34 ([.slice none 0 0]) := ⟨by kernel_rfl⟩
instance : ZC Tryz.prog 36 ([.int .i64 0, .int .i64 0, .int .i64 0, .int .i64 0, .int .u8 0, .slice none 0 0]) := ⟨by kernel_rfl⟩
theorem zc_38 : zcT Tryz.prog 38 = some (zD) := by kernel_rfl
instance : ZC Tryz.prog 38 (zD) := ⟨zc_38⟩
instance : ZC Tryz.prog 39 ([.slice none 0 0]) := ⟨by kernel_rfl⟩
instance : ZC Tryz.prog 41 (HAppend.hAppend [.int .i64 0, .int .i64 0] (HAppend.hAppend zD ([.slice none 0 0]))) := ⟨by kernel_rfl⟩
instance : ZC Tryz.prog 42 ([.slice none 0 0]) := ⟨by kernel_rfl⟩
instance : ZC Tryz.prog 43 ([.slice none 0 0]) := ⟨by kernel_rfl⟩
instance : ZC Tryz.prog 45 (HAppend.hAppend [.int .i64 0, .int .i64 0] (HAppend.hAppend zD (HAppend.hAppend [.int .i64 0, .int .i64 0] (HAppend.hAppend zD ([.slice none 0 0, .slice none 0 0, .slice none 0 0]))))) := ⟨by kernel_rfl⟩
instance : ZC Tryz.prog 47 (HAppend.hAppend [.int .i64 0, .int .i64 0] (HAppend.hAppend zD (HAppend.hAppend [.int .i64 0, .int .i64 0] (HAppend.hAppend zD (HAppend.hAppend [.slice none 0 0, .slice none 0 0, .slice none 0 0, .int .i64 0, .int .i64 0] (HAppend.hAppend zD ([.slice none 0 0]))))))) := ⟨by kernel_rfl⟩
theorem zc_49 : zcT Tryz.prog 49 = some ([.slice none 0 0]) := by kernel_rfl
instance : ZC Tryz.prog 49 ([.slice none 0 0]) := ⟨zc_49⟩
instance : ZC Tryz.prog 54 ((List.replicate 64 (.int .u8 0))) := ⟨by kernel_rfl⟩
instance : ZC Tryz.prog 59 ([.slice none 0 0]) := ⟨by kernel_rfl⟩
instance : ZC Tryz.prog 68 ([.pointer none]) := ⟨by kernel_rfl⟩
theorem zc_70 : zcT Tryz.prog 70 = some ([.pointer none, .int .i64 0, .pointer none, .slice none 0 0, .slice none 0 0, .int .i64 0]) := by kernel_rfl
instance : ZC Tryz.prog 70 ([.pointer none, .int .i64 0, .pointer none, .slice none 0 0, .slice none 0 0, .int .i64 0]) := ⟨zc_70⟩
instance : ZC Tryz.prog 76 ([.map none]) := ⟨by kernel_rfl⟩
instance : ZC Tryz.prog 78 ([.slice none 0 0, .map none, .bool false, .bool false, .int .i64 0]) := ⟨by kernel_rfl⟩
instance : ZC Tryz.prog 82 ([.slice none 0 0]) := ⟨by kernel_rfl⟩
instance : ZC Tryz.prog 84 ([.int .i64 0, .slice none 0 0, .slice none 0 0]) := ⟨by kernel_rfl⟩
instance : ZC Tryz.prog 86 ([.int .i64 0, .int .i64 0, .slice none 0 0, .slice none 0 0]) := ⟨by kernel_rfl⟩
instance : ZC Tryz.prog 92 (HAppend.hAppend zD ([.slice none 0 0, .slice none 0 0])) := ⟨by kernel_rfl⟩
instance : ZC Tryz.prog 97 ([.slice none 0 0]) := ⟨by kernel_rfl⟩
instance : ZC Tryz.prog 99 ([.pointer none, .int .i64 0, .int .i64 0, .slice none 0 0]) := ⟨by kernel_rfl⟩
instance : ZC Tryz.prog 109 ([.pointer none]) := ⟨by kernel_rfl⟩
instance : ZC Tryz.prog 111 ([.slice none 0 0, .int .i64 0, .int .i64 0]) := ⟨by kernel_rfl⟩
instance : ZC Tryz.prog 114 ([.pointer none]) := ⟨by kernel_rfl⟩
instance : ZC Tryz.prog 126 ([.slice none 0 0]) := ⟨by kernel_rfl⟩
theorem zc_132 : zcT Tryz.prog 132 = some ([.slice none 0 0, .int .i64 0]) := by kernel_rfl
instance : ZC Tryz.prog 132 ([.slice none 0 0, .int .i64 0]) := ⟨zc_132⟩
instance : ZC Tryz.prog 135 ([.pointer none]) := ⟨by kernel_rfl⟩
theorem zc_142 : zcT Tryz.prog 142 = some ((List.replicate 32 (.int .u8 0))) := by kernel_rfl
instance : ZC Tryz.prog 142 ((List.replicate 32 (.int .u8 0))) := ⟨zc_142⟩
instance : ZC Tryz.prog 145 ([.pointer none]) := ⟨by kernel_rfl⟩
instance : ZC Tryz.prog 152 (HAppend.hAppend zD ([.int .i64 0])) := ⟨by kernel_rfl⟩
instance : ZC Tryz.prog 160 ([.pointer none]) := ⟨by kernel_rfl⟩
instance : ZC Tryz.prog 173 ([.pointer none]) := ⟨by kernel_rfl⟩
instance : ZC Tryz.prog 184 ([.nilIface, .slice none 0 0]) := ⟨by kernel_rfl⟩
instance : ZC Tryz.prog 187 ([.int .u64 0]) := ⟨by kernel_rfl⟩
instance : ZC Tryz.prog 188 ([.int .u32 0]) := ⟨by kernel_rfl⟩
theorem zc_189 : zcT Tryz.prog 189 = some ((List.replicate 64 (.int .u32 0))) := by kernel_rfl
instance : ZC Tryz.prog 189 ((List.replicate 64 (.int .u32 0))) := ⟨zc_189⟩
theorem zc_190 : zcT Tryz.prog 190 = some ((List.replicate 8 (.int .u32 0))) := by kernel_rfl
instance : ZC Tryz.prog 190 ((List.replicate 8 (.int .u32 0))) := ⟨zc_190⟩
theorem zc_193 : zcT Tryz.prog 193 = some ([.nilIface, .slice none 0 0]) := by kernel_rfl
instance : ZC Tryz.prog 193 ([.nilIface, .slice none 0 0]) := ⟨zc_193⟩
instance : ZC Tryz.prog 219 ((List.replicate 8 (.int .u32 0))) := ⟨by kernel_rfl⟩
instance : ZC Tryz.prog 222 (HAppend.hAppend (List.replicate 8 (.int .u32 0)) ([.slice none 0 0, .int .u64 0])) := ⟨by kernel_rfl⟩
instance : ZC Tryz.prog 252 ([.int .u64 0]) := ⟨by kernel_rfl⟩
instance : ZC Tryz.prog 286 ([.string ByteArray.empty]) := ⟨by kernel_rfl⟩
theorem sl_22 : sliceT Tryz.prog 22 = some 36 := by kernel_rfl
instance : SLT Tryz.prog 22 36 := ⟨sl_22⟩
instance : ART Tryz.prog 23 2 3 := ⟨by kernel_rfl⟩
instance : SLT Tryz.prog 33 54 := ⟨by kernel_rfl⟩
theorem sl_34 : sliceT Tryz.prog 34 = some 4 := by kernel_rfl
instance : SLT Tryz.prog 34 4 := ⟨sl_34⟩
theorem arr_38 : arrT Tryz.prog 38 = some (16, 5) := by kernel_rfl
instance : ART Tryz.prog 38 16 5 := ⟨arr_38⟩
theorem sl_39 : sliceT Tryz.prog 39 = some 86 := by kernel_rfl
instance : SLT Tryz.prog 39 86 := ⟨sl_39⟩
theorem sl_42 : sliceT Tryz.prog 42 = some 49 := by kernel_rfl
instance : SLT Tryz.prog 42 49 := ⟨sl_42⟩
theorem sl_43 : sliceT Tryz.prog 43 = some 152 := by kernel_rfl
instance : SLT Tryz.prog 43 152 := ⟨sl_43⟩
theorem sl_49 : sliceT Tryz.prog 49 = some 5 := by kernel_rfl
instance : SLT Tryz.prog 49 5 := ⟨sl_49⟩
theorem arr_54 : arrT Tryz.prog 54 = some (64, 5) := by kernel_rfl
instance : ART Tryz.prog 54 64 5 := ⟨arr_54⟩
instance : SLT Tryz.prog 59 47 := ⟨by kernel_rfl⟩
theorem sl_82 : sliceT Tryz.prog 82 = some 38 := by kernel_rfl
instance : SLT Tryz.prog 82 38 := ⟨sl_82⟩
instance : SLT Tryz.prog 97 92 := ⟨by kernel_rfl⟩
theorem sl_116 : sliceT Tryz.prog 116 = some 27 := by kernel_rfl
instance : SLT Tryz.prog 116 27 := ⟨sl_116⟩
instance : SLT Tryz.prog 126 3 := ⟨by kernel_rfl⟩
theorem sl_141 : sliceT Tryz.prog 141 = some 9 := by kernel_rfl
instance : SLT Tryz.prog 141 9 := ⟨sl_141⟩
theorem arr_142 : arrT Tryz.prog 142 = some (32, 5) := by kernel_rfl
instance : ART Tryz.prog 142 32 5 := ⟨arr_142⟩
theorem arr_189 : arrT Tryz.prog 189 = some (64, 188) := by kernel_rfl
instance : ART Tryz.prog 189 64 188 := ⟨arr_189⟩
theorem arr_190 : arrT Tryz.prog 190 = some (8, 188) := by kernel_rfl
instance : ART Tryz.prog 190 8 188 := ⟨arr_190⟩
theorem arr_219 : arrT Tryz.prog 219 = some (8, 188) := by kernel_rfl
instance : ART Tryz.prog 219 8 188 := ⟨arr_219⟩
theorem el_22 : ElemT Tryz.prog 22 36 6 64 := elemT_of (by kernel_rfl)
instance : ELT Tryz.prog 22 36 6 64 := ⟨el_22⟩
theorem el_33 : ElemT Tryz.prog 33 54 64 64 := elemT_of (by kernel_rfl)
instance : ELT Tryz.prog 33 54 64 64 := ⟨el_33⟩
theorem el_34 : ElemT Tryz.prog 34 4 1 1 := elemT_of (by kernel_rfl)
instance : ELT Tryz.prog 34 4 1 1 := ⟨el_34⟩
theorem el_39 : ElemT Tryz.prog 39 86 4 64 := elemT_of (by kernel_rfl)
instance : ELT Tryz.prog 39 86 4 64 := ⟨el_39⟩
theorem el_42 : ElemT Tryz.prog 42 49 1 24 := elemT_of (by kernel_rfl)
instance : ELT Tryz.prog 42 49 1 24 := ⟨el_42⟩
theorem el_43 : ElemT Tryz.prog 43 152 17 24 := elemT_of (by kernel_rfl)
instance : ELT Tryz.prog 43 152 17 24 := ⟨el_43⟩
theorem el_49 : ElemT Tryz.prog 49 5 1 1 := elemT_of (by kernel_rfl)
instance : ELT Tryz.prog 49 5 1 1 := ⟨el_49⟩
theorem el_59 : ElemT Tryz.prog 59 47 58 192 := elemT_of (by kernel_rfl)
instance : ELT Tryz.prog 59 47 58 192 := ⟨el_59⟩
theorem el_82 : ElemT Tryz.prog 82 38 16 16 := elemT_of (by kernel_rfl)
instance : ELT Tryz.prog 82 38 16 16 := ⟨el_82⟩
theorem el_97 : ElemT Tryz.prog 97 92 18 64 := elemT_of (by kernel_rfl)
instance : ELT Tryz.prog 97 92 18 64 := ⟨el_97⟩
theorem el_116 : ElemT Tryz.prog 116 27 1 16 := elemT_of (by kernel_rfl)
instance : ELT Tryz.prog 116 27 1 16 := ⟨el_116⟩
theorem el_126 : ElemT Tryz.prog 126 3 1 8 := elemT_of (by kernel_rfl)
instance : ELT Tryz.prog 126 3 1 8 := ⟨el_126⟩
theorem el_141 : ElemT Tryz.prog 141 9 1 16 := elemT_of (by kernel_rfl)
instance : ELT Tryz.prog 141 9 1 16 := ⟨el_141⟩
theorem un_3 : Tryz.prog.underlying 3 = some (.int .i64) := by kernel_rfl
instance : UNT Tryz.prog 3 (.int .i64) := ⟨un_3⟩
theorem un_5 : Tryz.prog.underlying 5 = some (.int .u8) := by kernel_rfl
instance : UNT Tryz.prog 5 (.int .u8) := ⟨un_5⟩
instance : UNT Tryz.prog 9 (.string) := ⟨by kernel_rfl⟩
theorem un_25 : Tryz.prog.underlying 25 = some (.pointer 78) := by kernel_rfl
instance : UNT Tryz.prog 25 (.pointer 78) := ⟨un_25⟩
instance : IFT Tryz.prog 27 := ⟨by kernel_rfl⟩
theorem un_30 : Tryz.prog.underlying 30 = some (.pointer 99) := by kernel_rfl
instance : UNT Tryz.prog 30 (.pointer 99) := ⟨un_30⟩
instance : UNT Tryz.prog 38 (.array 16 5) := ⟨by kernel_rfl⟩
instance : PLT Tryz.prog 41 [(0, 1), (1, 1), (2, 16), (18, 1)] := ⟨by kernel_rfl⟩
instance : PLT Tryz.prog 45 [(0, 1), (1, 1), (2, 16), (18, 19), (37, 1), (38, 1)] := ⟨by kernel_rfl⟩
instance : PLT Tryz.prog 47 [(0, 39), (39, 19)] := ⟨by kernel_rfl⟩
instance : UNT Tryz.prog 49 (.slice 5) := ⟨by kernel_rfl⟩
instance : UNT Tryz.prog 54 (.array 64 5) := ⟨by kernel_rfl⟩
instance : UNT Tryz.prog 57 (.int .u64) := ⟨by kernel_rfl⟩
theorem pl_70 : placesT Tryz.prog 70 = some [(0, 1), (1, 1), (2, 1), (3, 1), (4, 1), (5, 1)] := by kernel_rfl
instance : PLT Tryz.prog 70 [(0, 1), (1, 1), (2, 1), (3, 1), (4, 1), (5, 1)] := ⟨pl_70⟩
theorem un_76 : Tryz.prog.underlying 76 = some (.map 3 54) := by kernel_rfl
instance : UNT Tryz.prog 76 (.map 3 54) := ⟨un_76⟩
instance : PLT Tryz.prog 78 [(0, 1), (1, 1), (2, 1), (3, 1), (4, 1)] := ⟨by kernel_rfl⟩
instance : PLT Tryz.prog 84 [(0, 1), (1, 1), (2, 1)] := ⟨by kernel_rfl⟩
instance : PLT Tryz.prog 86 [(0, 1), (1, 3)] := ⟨by kernel_rfl⟩
instance : PLT Tryz.prog 92 [(0, 16), (16, 1), (17, 1)] := ⟨by kernel_rfl⟩
instance : PLT Tryz.prog 99 [(0, 1), (1, 1), (2, 1), (3, 1)] := ⟨by kernel_rfl⟩
instance : PLT Tryz.prog 111 [(0, 1), (1, 1), (2, 1)] := ⟨by kernel_rfl⟩
instance : PLT Tryz.prog 114 [(0, 1)] := ⟨by kernel_rfl⟩
theorem pl_132 : placesT Tryz.prog 132 = some [(0, 1), (1, 1)] := by kernel_rfl
instance : PLT Tryz.prog 132 [(0, 1), (1, 1)] := ⟨pl_132⟩
instance : UNT Tryz.prog 142 (.array 32 5) := ⟨by kernel_rfl⟩
instance : PLT Tryz.prog 152 [(0, 16), (16, 1)] := ⟨by kernel_rfl⟩
instance : PLT Tryz.prog 160 [(0, 1)] := ⟨by kernel_rfl⟩
instance : PLT Tryz.prog 173 [(0, 1)] := ⟨by kernel_rfl⟩
instance : PLT Tryz.prog 184 [(0, 1), (1, 1)] := ⟨by kernel_rfl⟩
theorem un_187 : Tryz.prog.underlying 187 = some (.int .u64) := by kernel_rfl
instance : UNT Tryz.prog 187 (.int .u64) := ⟨un_187⟩
theorem un_188 : Tryz.prog.underlying 188 = some (.int .u32) := by kernel_rfl
instance : UNT Tryz.prog 188 (.int .u32) := ⟨un_188⟩
instance : UNT Tryz.prog 189 (.array 64 188) := ⟨by kernel_rfl⟩
instance : UNT Tryz.prog 190 (.array 8 188) := ⟨by kernel_rfl⟩
theorem pl_193 : placesT Tryz.prog 193 = some [(0, 1), (1, 1)] := by kernel_rfl
instance : PLT Tryz.prog 193 [(0, 1), (1, 1)] := ⟨pl_193⟩
instance : UNT Tryz.prog 219 (.array 8 188) := ⟨by kernel_rfl⟩
instance : PLT Tryz.prog 222 [(0, 8), (8, 1), (9, 1)] := ⟨by kernel_rfl⟩
instance : UNT Tryz.prog 242 (.int .i64) := ⟨by kernel_rfl⟩
instance : UNT Tryz.prog 252 (.int .u64) := ⟨by kernel_rfl⟩
instance : UNT Tryz.prog 261 (.pointer 286) := ⟨by kernel_rfl⟩
instance : PLT Tryz.prog 286 [(0, 1)] := ⟨by kernel_rfl⟩
instance : FO Tryz.prog 36 0 0 := ⟨by kernel_rfl⟩
instance : FO Tryz.prog 36 1 1 := ⟨by kernel_rfl⟩
instance : FO Tryz.prog 36 2 2 := ⟨by kernel_rfl⟩
instance : FO Tryz.prog 36 3 3 := ⟨by kernel_rfl⟩
instance : FO Tryz.prog 36 4 4 := ⟨by kernel_rfl⟩
instance : FO Tryz.prog 36 5 5 := ⟨by kernel_rfl⟩
instance : FO Tryz.prog 41 0 0 := ⟨by kernel_rfl⟩
instance : FO Tryz.prog 41 1 1 := ⟨by kernel_rfl⟩
instance : FO Tryz.prog 41 2 2 := ⟨by kernel_rfl⟩
instance : FO Tryz.prog 41 3 18 := ⟨by kernel_rfl⟩
instance : FO Tryz.prog 45 0 0 := ⟨by kernel_rfl⟩
instance : FO Tryz.prog 45 1 1 := ⟨by kernel_rfl⟩
instance : FO Tryz.prog 45 2 2 := ⟨by kernel_rfl⟩
instance : FO Tryz.prog 45 3 18 := ⟨by kernel_rfl⟩
instance : FO Tryz.prog 45 4 37 := ⟨by kernel_rfl⟩
instance : FO Tryz.prog 45 5 38 := ⟨by kernel_rfl⟩
instance : FO Tryz.prog 47 0 0 := ⟨by kernel_rfl⟩
instance : FO Tryz.prog 47 1 39 := ⟨by kernel_rfl⟩
instance : FO Tryz.prog 70 0 0 := ⟨by kernel_rfl⟩
instance : FO Tryz.prog 70 1 1 := ⟨by kernel_rfl⟩
instance : FO Tryz.prog 70 2 2 := ⟨by kernel_rfl⟩
instance : FO Tryz.prog 70 3 3 := ⟨by kernel_rfl⟩
instance : FO Tryz.prog 70 4 4 := ⟨by kernel_rfl⟩
instance : FO Tryz.prog 70 5 5 := ⟨by kernel_rfl⟩
instance : FO Tryz.prog 78 0 0 := ⟨by kernel_rfl⟩
instance : FO Tryz.prog 78 1 1 := ⟨by kernel_rfl⟩
instance : FO Tryz.prog 78 2 2 := ⟨by kernel_rfl⟩
instance : FO Tryz.prog 78 3 3 := ⟨by kernel_rfl⟩
instance : FO Tryz.prog 78 4 4 := ⟨by kernel_rfl⟩
instance : FO Tryz.prog 84 0 0 := ⟨by kernel_rfl⟩
instance : FO Tryz.prog 84 1 1 := ⟨by kernel_rfl⟩
instance : FO Tryz.prog 84 2 2 := ⟨by kernel_rfl⟩
instance : FO Tryz.prog 86 0 0 := ⟨by kernel_rfl⟩
instance : FO Tryz.prog 86 1 1 := ⟨by kernel_rfl⟩
instance : FO Tryz.prog 92 0 0 := ⟨by kernel_rfl⟩
instance : FO Tryz.prog 92 1 16 := ⟨by kernel_rfl⟩
instance : FO Tryz.prog 92 2 17 := ⟨by kernel_rfl⟩
instance : FO Tryz.prog 99 0 0 := ⟨by kernel_rfl⟩
instance : FO Tryz.prog 99 2 2 := ⟨by kernel_rfl⟩
instance : FO Tryz.prog 99 3 3 := ⟨by kernel_rfl⟩
instance : FO Tryz.prog 111 0 0 := ⟨by kernel_rfl⟩
instance : FO Tryz.prog 111 1 1 := ⟨by kernel_rfl⟩
instance : FO Tryz.prog 111 2 2 := ⟨by kernel_rfl⟩
instance : FO Tryz.prog 114 0 0 := ⟨by kernel_rfl⟩
instance : FO Tryz.prog 132 0 0 := ⟨by kernel_rfl⟩
instance : FO Tryz.prog 132 1 1 := ⟨by kernel_rfl⟩
instance : FO Tryz.prog 152 0 0 := ⟨by kernel_rfl⟩
instance : FO Tryz.prog 152 1 16 := ⟨by kernel_rfl⟩
instance : FO Tryz.prog 160 0 0 := ⟨by kernel_rfl⟩
instance : FO Tryz.prog 173 0 0 := ⟨by kernel_rfl⟩
instance : FO Tryz.prog 182 0 0 := ⟨by kernel_rfl⟩
instance : FO Tryz.prog 184 0 0 := ⟨by kernel_rfl⟩
instance : FO Tryz.prog 184 1 1 := ⟨by kernel_rfl⟩
instance : FO Tryz.prog 193 0 0 := ⟨by kernel_rfl⟩
instance : FO Tryz.prog 193 1 1 := ⟨by kernel_rfl⟩
instance : FO Tryz.prog 222 0 0 := ⟨by kernel_rfl⟩
instance : FO Tryz.prog 222 1 8 := ⟨by kernel_rfl⟩
instance : FO Tryz.prog 222 2 9 := ⟨by kernel_rfl⟩
instance : CLT Tryz.prog 3 := ⟨by kernel_rfl⟩
instance : CLT Tryz.prog 4 := ⟨by kernel_rfl⟩
instance : CLT Tryz.prog 5 := ⟨by kernel_rfl⟩
instance : CLT Tryz.prog 6 := ⟨by kernel_rfl⟩
instance : CLT Tryz.prog 7 := ⟨by kernel_rfl⟩
instance : CLT Tryz.prog 8 := ⟨by kernel_rfl⟩
instance : CLT Tryz.prog 9 := ⟨by kernel_rfl⟩
instance : CLT Tryz.prog 10 := ⟨by kernel_rfl⟩
instance : CLT Tryz.prog 11 := ⟨by kernel_rfl⟩
instance : CLT Tryz.prog 12 := ⟨by kernel_rfl⟩
instance : CLT Tryz.prog 13 := ⟨by kernel_rfl⟩
instance : CLT Tryz.prog 14 := ⟨by kernel_rfl⟩
instance : CLT Tryz.prog 15 := ⟨by kernel_rfl⟩
instance : CLT Tryz.prog 16 := ⟨by kernel_rfl⟩
instance : CLT Tryz.prog 17 := ⟨by kernel_rfl⟩
instance : CLT Tryz.prog 18 := ⟨by kernel_rfl⟩
instance : CLT Tryz.prog 19 := ⟨by kernel_rfl⟩
instance : CLT Tryz.prog 20 := ⟨by kernel_rfl⟩
instance : CLT Tryz.prog 21 := ⟨by kernel_rfl⟩
instance : CLT Tryz.prog 22 := ⟨by kernel_rfl⟩
instance : CLT Tryz.prog 23 := ⟨by kernel_rfl⟩
instance : CLT Tryz.prog 24 := ⟨by kernel_rfl⟩
instance : CLT Tryz.prog 25 := ⟨by kernel_rfl⟩
instance : CLT Tryz.prog 26 := ⟨by kernel_rfl⟩
instance : CLT Tryz.prog 27 := ⟨by kernel_rfl⟩
instance : CLT Tryz.prog 28 := ⟨by kernel_rfl⟩
instance : CLT Tryz.prog 29 := ⟨by kernel_rfl⟩
instance : CLT Tryz.prog 30 := ⟨by kernel_rfl⟩
instance : CLT Tryz.prog 31 := ⟨by kernel_rfl⟩
instance : CLT Tryz.prog 32 := ⟨by kernel_rfl⟩
instance : CLT Tryz.prog 33 := ⟨by kernel_rfl⟩
instance : CLT Tryz.prog 34 := ⟨by kernel_rfl⟩
instance : CLT Tryz.prog 35 := ⟨by kernel_rfl⟩
instance : CLT Tryz.prog 36 := ⟨by kernel_rfl⟩
instance : CLT Tryz.prog 37 := ⟨by kernel_rfl⟩
instance : CLT Tryz.prog 38 := ⟨by kernel_rfl⟩
instance : CLT Tryz.prog 39 := ⟨by kernel_rfl⟩
instance : CLT Tryz.prog 40 := ⟨by kernel_rfl⟩
instance : CLT Tryz.prog 41 := ⟨by kernel_rfl⟩
instance : CLT Tryz.prog 42 := ⟨by kernel_rfl⟩
instance : CLT Tryz.prog 43 := ⟨by kernel_rfl⟩
instance : CLT Tryz.prog 44 := ⟨by kernel_rfl⟩
instance : CLT Tryz.prog 45 := ⟨by kernel_rfl⟩
instance : CLT Tryz.prog 46 := ⟨by kernel_rfl⟩
instance : CLT Tryz.prog 47 := ⟨by kernel_rfl⟩
instance : CLT Tryz.prog 48 := ⟨by kernel_rfl⟩
instance : CLT Tryz.prog 49 := ⟨by kernel_rfl⟩
instance : CLT Tryz.prog 50 := ⟨by kernel_rfl⟩
instance : CLT Tryz.prog 51 := ⟨by kernel_rfl⟩
instance : CLT Tryz.prog 52 := ⟨by kernel_rfl⟩
instance : CLT Tryz.prog 53 := ⟨by kernel_rfl⟩
instance : CLT Tryz.prog 54 := ⟨by kernel_rfl⟩
instance : CLT Tryz.prog 55 := ⟨by kernel_rfl⟩
instance : CLT Tryz.prog 56 := ⟨by kernel_rfl⟩
instance : CLT Tryz.prog 57 := ⟨by kernel_rfl⟩
instance : CLT Tryz.prog 58 := ⟨by kernel_rfl⟩
instance : CLT Tryz.prog 59 := ⟨by kernel_rfl⟩
instance : CLT Tryz.prog 60 := ⟨by kernel_rfl⟩
instance : CLT Tryz.prog 61 := ⟨by kernel_rfl⟩
theorem call_62 : okCall Tryz.prog 62 = true := by kernel_rfl
instance : CLT Tryz.prog 62 := ⟨call_62⟩
instance : CLT Tryz.prog 63 := ⟨by kernel_rfl⟩
instance : CLT Tryz.prog 64 := ⟨by kernel_rfl⟩
instance : CLT Tryz.prog 65 := ⟨by kernel_rfl⟩
instance : CLT Tryz.prog 66 := ⟨by kernel_rfl⟩
instance : CLT Tryz.prog 67 := ⟨by kernel_rfl⟩
instance : CLT Tryz.prog 68 := ⟨by kernel_rfl⟩
instance : CLT Tryz.prog 69 := ⟨by kernel_rfl⟩
instance : CLT Tryz.prog 70 := ⟨by kernel_rfl⟩
instance : CLT Tryz.prog 71 := ⟨by kernel_rfl⟩
instance : CLT Tryz.prog 72 := ⟨by kernel_rfl⟩
instance : CLT Tryz.prog 73 := ⟨by kernel_rfl⟩
instance : CLT Tryz.prog 74 := ⟨by kernel_rfl⟩
instance : CLT Tryz.prog 75 := ⟨by kernel_rfl⟩
instance : CLT Tryz.prog 77 := ⟨by kernel_rfl⟩
instance : CLT Tryz.prog 78 := ⟨by kernel_rfl⟩
theorem call_79 : okCall Tryz.prog 79 = true := by kernel_rfl
instance : CLT Tryz.prog 79 := ⟨call_79⟩
instance : CLT Tryz.prog 80 := ⟨by kernel_rfl⟩
instance : CLT Tryz.prog 81 := ⟨by kernel_rfl⟩
instance : CLT Tryz.prog 82 := ⟨by kernel_rfl⟩
instance : CLT Tryz.prog 83 := ⟨by kernel_rfl⟩
theorem call_84 : okCall Tryz.prog 84 = true := by kernel_rfl
instance : CLT Tryz.prog 84 := ⟨call_84⟩
theorem call_85 : okCall Tryz.prog 85 = true := by kernel_rfl
instance : CLT Tryz.prog 85 := ⟨call_85⟩
instance : CLT Tryz.prog 86 := ⟨by kernel_rfl⟩
instance : CLT Tryz.prog 87 := ⟨by kernel_rfl⟩
instance : CLT Tryz.prog 88 := ⟨by kernel_rfl⟩
theorem call_89 : okCall Tryz.prog 89 = true := by kernel_rfl
instance : CLT Tryz.prog 89 := ⟨call_89⟩
instance : CLT Tryz.prog 90 := ⟨by kernel_rfl⟩
instance : CLT Tryz.prog 91 := ⟨by kernel_rfl⟩
instance : CLT Tryz.prog 92 := ⟨by kernel_rfl⟩
instance : CLT Tryz.prog 93 := ⟨by kernel_rfl⟩
instance : CLT Tryz.prog 94 := ⟨by kernel_rfl⟩
instance : CLT Tryz.prog 95 := ⟨by kernel_rfl⟩
instance : CLT Tryz.prog 96 := ⟨by kernel_rfl⟩
instance : CLT Tryz.prog 97 := ⟨by kernel_rfl⟩
instance : CLT Tryz.prog 98 := ⟨by kernel_rfl⟩
instance : CLT Tryz.prog 99 := ⟨by kernel_rfl⟩
instance : CLT Tryz.prog 100 := ⟨by kernel_rfl⟩
instance : CLT Tryz.prog 101 := ⟨by kernel_rfl⟩
instance : CLT Tryz.prog 102 := ⟨by kernel_rfl⟩
instance : CLT Tryz.prog 103 := ⟨by kernel_rfl⟩
instance : CLT Tryz.prog 104 := ⟨by kernel_rfl⟩
instance : CLT Tryz.prog 105 := ⟨by kernel_rfl⟩
instance : CLT Tryz.prog 106 := ⟨by kernel_rfl⟩
instance : CLT Tryz.prog 107 := ⟨by kernel_rfl⟩
instance : CLT Tryz.prog 108 := ⟨by kernel_rfl⟩
instance : CLT Tryz.prog 109 := ⟨by kernel_rfl⟩
instance : CLT Tryz.prog 110 := ⟨by kernel_rfl⟩
instance : CLT Tryz.prog 111 := ⟨by kernel_rfl⟩
theorem call_112 : okCall Tryz.prog 112 = true := by kernel_rfl
instance : CLT Tryz.prog 112 := ⟨call_112⟩
instance : CLT Tryz.prog 113 := ⟨by kernel_rfl⟩
theorem call_114 : okCall Tryz.prog 114 = true := by kernel_rfl
instance : CLT Tryz.prog 114 := ⟨call_114⟩
theorem call_115 : okCall Tryz.prog 115 = true := by kernel_rfl
instance : CLT Tryz.prog 115 := ⟨call_115⟩
instance : CLT Tryz.prog 116 := ⟨by kernel_rfl⟩
instance : CLT Tryz.prog 117 := ⟨by kernel_rfl⟩
instance : CLT Tryz.prog 118 := ⟨by kernel_rfl⟩
instance : CLT Tryz.prog 119 := ⟨by kernel_rfl⟩
instance : CLT Tryz.prog 120 := ⟨by kernel_rfl⟩
instance : CLT Tryz.prog 121 := ⟨by kernel_rfl⟩
instance : CLT Tryz.prog 122 := ⟨by kernel_rfl⟩
instance : CLT Tryz.prog 123 := ⟨by kernel_rfl⟩
theorem call_124 : okCall Tryz.prog 124 = true := by kernel_rfl
instance : CLT Tryz.prog 124 := ⟨call_124⟩
instance : CLT Tryz.prog 125 := ⟨by kernel_rfl⟩
theorem call_126 : okCall Tryz.prog 126 = true := by kernel_rfl
instance : CLT Tryz.prog 126 := ⟨call_126⟩
theorem call_127 : okCall Tryz.prog 127 = true := by kernel_rfl
instance : CLT Tryz.prog 127 := ⟨call_127⟩
instance : CLT Tryz.prog 128 := ⟨by kernel_rfl⟩
instance : CLT Tryz.prog 129 := ⟨by kernel_rfl⟩
instance : CLT Tryz.prog 130 := ⟨by kernel_rfl⟩
instance : CLT Tryz.prog 131 := ⟨by kernel_rfl⟩
instance : CLT Tryz.prog 132 := ⟨by kernel_rfl⟩
instance : CLT Tryz.prog 133 := ⟨by kernel_rfl⟩
instance : CLT Tryz.prog 134 := ⟨by kernel_rfl⟩
instance : CLT Tryz.prog 135 := ⟨by kernel_rfl⟩
theorem call_136 : okCall Tryz.prog 136 = true := by kernel_rfl
instance : CLT Tryz.prog 136 := ⟨call_136⟩
instance : CLT Tryz.prog 137 := ⟨by kernel_rfl⟩
instance : CLT Tryz.prog 138 := ⟨by kernel_rfl⟩
instance : CLT Tryz.prog 139 := ⟨by kernel_rfl⟩
instance : CLT Tryz.prog 140 := ⟨by kernel_rfl⟩
instance : CLT Tryz.prog 141 := ⟨by kernel_rfl⟩
instance : CLT Tryz.prog 142 := ⟨by kernel_rfl⟩
theorem call_143 : okCall Tryz.prog 143 = true := by kernel_rfl
instance : CLT Tryz.prog 143 := ⟨call_143⟩
instance : CLT Tryz.prog 144 := ⟨by kernel_rfl⟩
instance : CLT Tryz.prog 145 := ⟨by kernel_rfl⟩
instance : CLT Tryz.prog 146 := ⟨by kernel_rfl⟩
instance : CLT Tryz.prog 147 := ⟨by kernel_rfl⟩
instance : CLT Tryz.prog 148 := ⟨by kernel_rfl⟩
instance : CLT Tryz.prog 149 := ⟨by kernel_rfl⟩
instance : CLT Tryz.prog 150 := ⟨by kernel_rfl⟩
instance : CLT Tryz.prog 151 := ⟨by kernel_rfl⟩
instance : CLT Tryz.prog 152 := ⟨by kernel_rfl⟩
instance : CLT Tryz.prog 153 := ⟨by kernel_rfl⟩
instance : CLT Tryz.prog 154 := ⟨by kernel_rfl⟩
instance : CLT Tryz.prog 155 := ⟨by kernel_rfl⟩
instance : CLT Tryz.prog 156 := ⟨by kernel_rfl⟩
instance : CLT Tryz.prog 157 := ⟨by kernel_rfl⟩
instance : CLT Tryz.prog 158 := ⟨by kernel_rfl⟩
instance : CLT Tryz.prog 159 := ⟨by kernel_rfl⟩
instance : CLT Tryz.prog 160 := ⟨by kernel_rfl⟩
instance : CLT Tryz.prog 161 := ⟨by kernel_rfl⟩
instance : CLT Tryz.prog 162 := ⟨by kernel_rfl⟩
instance : CLT Tryz.prog 163 := ⟨by kernel_rfl⟩
instance : CLT Tryz.prog 164 := ⟨by kernel_rfl⟩
instance : CLT Tryz.prog 165 := ⟨by kernel_rfl⟩
instance : CLT Tryz.prog 166 := ⟨by kernel_rfl⟩
instance : CLT Tryz.prog 167 := ⟨by kernel_rfl⟩
instance : CLT Tryz.prog 168 := ⟨by kernel_rfl⟩
instance : CLT Tryz.prog 169 := ⟨by kernel_rfl⟩
instance : CLT Tryz.prog 170 := ⟨by kernel_rfl⟩
instance : CLT Tryz.prog 204 := ⟨by kernel_rfl⟩
instance : CLT Tryz.prog 226 := ⟨by kernel_rfl⟩
end Ty
end
section
abbrev Env := List (Nat × Value)
def Env.get : Env → Nat → Value
  | [], _ => undef
  | (d, v) :: r, t => bif Nat.beq t d then v else Env.get r t
structure Fm where
  nt : Nat
  ds : List Deferred := []
  ro : Option Nat := none
def fr (n : Fm) (e : Env) : Act := { tmps := Array.ofFn (n := n.nt) (fun i => Env.get e i.val), defers := n.ds }
def ev (n : Fm) (e : Env) : Operand → Value
  | .tmp t => bif Nat.blt t n.nt then Env.get e t else undef
  | .const v => v
  | .global g => .pointer (some ⟨g, 0, none⟩)
  | .func f => .func (.func f) #[] #[]
def pu : Option Tmp → Value → Env → Env
  | some d, v, e => (d, v) :: e
  | none, _, e => e
def enumE : Nat → List Value → Env
  | _, [] => []
  | k, v :: r => (k, v) :: enumE (k + 1) r
theorem fr_get (n : Fm) (e : Env) (t : Nat) : (fr n e).tmps.getD t undef = if t < n.nt then Env.get e t else undef := by
  simp only [fr, Array.getD_eq_getD_getElem?, Array.getElem?_ofFn]
  split <;> rfl
theorem fr_eval (n : Fm) (e : Env) : (fr n e).eval = ev n e := by
  funext x
  cases x with
  | tmp t =>
    show (fr n e).tmps.getD t undef = _
    rw [fr_get]
    simp only [ev]
    by_cases h : t < n.nt
    · rw [if_pos h, show Nat.blt t n.nt = true by rw [Nat.blt_eq]; exact h]; rfl
    · rw [if_neg h, show Nat.blt t n.nt = false from Bool.eq_false_iff.2 (fun h' => h (by rw [Nat.blt_eq] at h'; exact h'))]; rfl
  | const v => rfl
  | global g => rfl
  | func f => rfl
theorem fr_ext {n : Fm} {e e' : Env} (h : ∀ t, t < n.nt → Env.get e t = Env.get e' t) : fr n e = fr n e' := by
  simp only [fr, Act.mk.injEq, and_true]
  apply Array.ext
  · simp
  · intro i h1 h2
    simp only [Array.getElem_ofFn]
    exact h i (by simpa using h1)
theorem get_cons (d t : Nat) (v : Value) (e : Env) : Env.get ((d, v) :: e) t = if t = d then v else Env.get e t := by
  simp only [Env.get]
  by_cases h : t = d
  · subst h; simp
  · rw [if_neg h, show Nat.beq t d = false from Bool.eq_false_iff.2 (fun h' => h (Nat.eq_of_beq_eq_true h'))]; rfl
theorem fr_put (n : Fm) (e : Env) (d : Option Tmp) (v : Value) : (fr n e).put d v = fr n (pu d v e) := by
  cases d with
  | none => rfl
  | some d =>
    simp only [Act.put, fr, pu, Act.mk.injEq, and_true]
    apply Array.ext_getElem?
    intro i
    rw [Array.getElem?_setIfInBounds]
    simp only [Array.getElem?_ofFn, Array.size_ofFn, get_cons]
    by_cases h : d = i
    · subst h
      by_cases hn : d < n.nt <;> simp [hn]
    · have h' : ¬ i = d := fun e => h e.symm
      simp [h, h']
theorem get_enumE : ∀ (l : List Value) (k t : Nat), Env.get (enumE k l) t = if k ≤ t then l.getD (t - k) undef else undef
  | [], k, t => by simp [enumE, Env.get]
  | v :: r, k, t => by
    simp only [enumE]
    rw [get_cons, get_enumE r (k + 1) t]
    by_cases h : t = k
    · subst h; simp
    · rw [if_neg h]
      by_cases h' : k + 1 ≤ t
      · rw [if_pos h', if_pos (by omega)]
        obtain ⟨m, hm⟩ : ∃ m, t - k = m + 1 := ⟨t - k - 1, by omega⟩
        rw [hm, show t - (k + 1) = m by omega]
        simp
      · rw [if_neg h', if_neg (by omega)]
theorem fr_init (n : Nat) (args : Array Value) (h : args.size ≤ n) :
    ({ tmps := args ++ Array.replicate (n - args.size) undef, defers := [] } : Act) = fr ⟨n, [], none⟩ (enumE 0 args.toList) := by
  simp only [fr, Act.mk.injEq, and_true]
  apply Array.ext
  · simp; omega
  · intro i h1 h2
    simp only [Array.getElem_ofFn]
    rw [get_enumE, if_pos (Nat.zero_le _), Array.getElem_append]
    simp only [Nat.sub_zero, List.getD_eq_getElem?_getD, Array.getElem?_toList]
    split
    · rename_i h3; simp [h3]
    · rename_i h3; simp at h3; simp [h3]
def okFz (n : Nat) (fz : Nat × Nat) : Prop := ∀ i, i < n → ¬ (fz.1 ≤ i ∧ i < fz.2)
def okObj : Obj → Prop
  | .cells cs _ fz => okFz cs.size fz
  | _ => True
def okAt (w : World) (k : Nat) : Prop := ∃ o, w.heap[k]? = some o ∧ okObj o
theorem okAt.lt {w : World} {k : Nat} (h : okAt w k) : k < w.heap.size := by obtain ⟨o, h, _⟩ := h; exact (Array.getElem?_eq_some_iff.1 h).1
theorem okAt.mv {w w' : World} {k : Nat} (h : okAt w k) (hk : w'.heap[k]? = w.heap[k]?) : okAt w' k := by obtain ⟨o, h, h2⟩ := h; exact ⟨o, hk.trans h, h2⟩
structure Res where
  on : World → (Nat → Prop) → Prop
  loc : ∀ {w w' : World} {F : Nat → Prop}, on w F → (∀ k, F k → w'.heap[k]? = w.heap[k]?) → on w' F
  ok : ∀ {w : World} {F : Nat → Prop}, on w F → ∀ k, F k → okAt w k
theorem Res.lt (r : Res) {w : World} {F : Nat → Prop} (h : r.on w F) (k : Nat) (hk : F k) : k < w.heap.size := (r.ok h k hk).lt
def stars : List Res → World → (Nat → Prop) → Prop
  | [], _, F => ∀ k, ¬ F k
  | r :: L, w, F => ∃ F1 F2, r.on w F1 ∧ stars L w F2 ∧ (∀ k, F k ↔ F1 k ∨ F2 k) ∧ ∀ k, F1 k → ¬ F2 k
theorem stars_loc : ∀ {L : List Res} {w w' : World} {F : Nat → Prop}, stars L w F → (∀ k, F k → w'.heap[k]? = w.heap[k]?) → stars L w' F
  | [], _, _, _, h, _ => h
  | r :: L, w, w', F, ⟨F1, F2, h1, h2, hF, hd⟩, hk =>
    ⟨F1, F2, r.loc h1 fun k h => hk k ((hF k).2 (.inl h)), stars_loc h2 fun k h => hk k ((hF k).2 (.inr h)), hF, hd⟩
theorem stars_ok : ∀ {L : List Res} {w : World} {F : Nat → Prop}, stars L w F → ∀ k, F k → okAt w k
  | [], _, _, h, k, hk => absurd hk (h k)
  | r :: L, w, F, ⟨F1, F2, h1, h2, hF, _⟩, k, hk => ((hF k).1 hk).elim (r.ok h1 k) (stars_ok h2 k)
theorem stars_lt {L : List Res} {w : World} {F : Nat → Prop} (h : stars L w F) (k : Nat) (hk : F k) : k < w.heap.size := (stars_ok h k hk).lt
theorem fp_eq {F G : Nat → Prop} (h : ∀ k, F k ↔ G k) : F = G := funext fun k => propext (h k)
inductive Pick : List Res → Res → List Res → Prop
  | here {r : Res} {L : List Res} : Pick (r :: L) r L
  | there {x r : Res} {L L' : List Res} : Pick L r L' → Pick (x :: L) r (x :: L')
theorem Pick.stars {L L' : List Res} {r : Res} (h : Pick L r L') : ∀ {w : World} {F : Nat → Prop}, stars L w F → stars (r :: L') w F := by
  induction h with
  | here => exact fun h => h
  | @there x r L L' _ ih =>
    rintro w F ⟨F1, F2, h1, h2, hF, hd⟩
    obtain ⟨G1, G2, g1, g2, hG, gd⟩ := ih h2
    refine ⟨G1, fun k => F1 k ∨ G2 k, g1, ⟨F1, G2, h1, g2, fun _ => Iff.rfl, fun k hk hk' => hd k hk ((hG k).2 (.inr hk'))⟩, fun k => ?_, ?_⟩
    · rw [hF, hG]; constructor
      · rintro (h | h | h) <;> simp [h]
      · rintro (h | h | h) <;> simp [h]
    · rintro k hk (h | h)
      · exact hd k h ((hG k).2 (.inl hk))
      · exact gd k hk h
inductive Sel : List Res → List Res → List Res → Prop
  | nil {L : List Res} : Sel L [] L
  | cons {L L1 L' M : List Res} {r : Res} : Pick L r L1 → Sel L1 M L' → Sel L (r :: M) L'
theorem Sel.split {L M L' : List Res} (h : Sel L M L') : ∀ {w : World} {F : Nat → Prop}, stars L w F →
    ∃ F1 F2, stars M w F1 ∧ stars L' w F2 ∧ (∀ k, F k ↔ F1 k ∨ F2 k) ∧ ∀ k, F1 k → ¬ F2 k := by
  induction h with
  | nil => exact fun {w F} h => ⟨fun _ => False, F, fun _ h => h, h, fun k => by simp, fun k h => h.elim⟩
  | @cons L L1 L' M r hp _ ih =>
    intro w F h
    obtain ⟨F1, F2, h1, h2, hF, hd⟩ := hp.stars h
    obtain ⟨G1, G2, g1, g2, hG, gd⟩ := ih h2
    refine ⟨fun k => F1 k ∨ G1 k, G2, ⟨F1, G1, h1, g1, fun _ => Iff.rfl, fun k hk hk' => hd k hk ((hG k).2 (.inl hk'))⟩, g2, fun k => ?_, ?_⟩
    · rw [hF, hG]; constructor
      · rintro (h | h | h) <;> simp [h]
      · rintro ((h | h) | h) <;> simp [h]
    · rintro k (hk | hk) h
      · exact hd k hk ((hG k).2 (.inr h))
      · exact gd k hk h
theorem stars_append : ∀ {M L : List Res} {w : World} {F1 F2 : Nat → Prop}, stars M w F1 → stars L w F2 → (∀ k, F1 k → ¬ F2 k) →
    stars (M ++ L) w (fun k => F1 k ∨ F2 k)
  | [], L, w, F1, F2, h1, h2, _ => by
    have : (fun k => F1 k ∨ F2 k) = F2 := fp_eq fun k => ⟨fun h => h.elim (fun h => absurd h (h1 k)) id, .inr⟩
    rw [this]; exact h2
  | r :: M, L, w, F1, F2, ⟨G1, G2, g1, g2, hG, gd⟩, h2, hd => by
    have := stars_append (F1 := G2) g2 h2 (fun k hk => hd k ((hG k).2 (.inr hk)))
    refine ⟨G1, _, g1, this, fun k => ?_, ?_⟩
    · show F1 k ∨ F2 k ↔ _
      rw [hG]; exact or_assoc
    · rintro k hk (h | h)
      · exact gd k hk h
      · exact hd k ((hG k).2 (.inl hk)) h
theorem stars_split : ∀ {M L : List Res} {w : World} {F : Nat → Prop}, stars (M ++ L) w F →
    ∃ F1 F2, stars M w F1 ∧ stars L w F2 ∧ (∀ k, F k ↔ F1 k ∨ F2 k) ∧ ∀ k, F1 k → ¬ F2 k
  | [], L, w, F, h => ⟨fun _ => False, F, fun _ h => h, h, fun k => by simp, fun k h => h.elim⟩
  | r :: M, L, w, F, ⟨F1, F2, h1, h2, hF, hd⟩ => by
    obtain ⟨G1, G2, g1, g2, hG, gd⟩ := stars_split h2
    refine ⟨fun k => F1 k ∨ G1 k, G2, ⟨F1, G1, h1, g1, fun _ => Iff.rfl, fun k hk hk' => hd k hk ((hG k).2 (.inl hk'))⟩, g2, fun k => ?_, ?_⟩
    · rw [hF, hG]; exact or_assoc.symm
    · rintro k (hk | hk) h
      · exact hd k hk ((hG k).2 (.inr h))
      · exact gd k hk h
structure Stp (w : World) (F : Nat → Prop) (w' : World) (F' : Nat → Prop) : Prop where
  os : w'.os = w.os
  tape : w'.tape = w.tape
  output : w'.output = w.output
  size : w.heap.size ≤ w'.heap.size
  block : ∀ k, k < w.heap.size → ¬ F k → w'.heap[k]? = w.heap[k]?
  own : ∀ k, F' k → F k ∨ w.heap.size ≤ k
theorem Stp.refl (w : World) (F : Nat → Prop) : Stp w F w F := ⟨rfl, rfl, rfl, Nat.le_refl _, fun _ _ _ => rfl, fun _ h => .inl h⟩
theorem Stp.trans {w0 w1 w2 : World} {F0 F1 F2 : Nat → Prop} (h : Stp w0 F0 w1 F1) (k : Stp w1 F1 w2 F2) : Stp w0 F0 w2 F2 where
  os := k.os.trans h.os
  tape := k.tape.trans h.tape
  output := k.output.trans h.output
  size := Nat.le_trans h.size k.size
  block := fun i hi hn => (k.block i (Nat.lt_of_lt_of_le hi h.size) (fun hf => (h.own i hf).elim hn (fun h' => absurd h' (by omega)))).trans (h.block i hi hn)
  own := fun i hi => (k.own i hi).elim (h.own i) (fun h' => .inr (Nat.le_trans h.size h'))
theorem Stp.weak {w w' : World} {F F' G : Nat → Prop} (h : Stp w F w' F') (hg : ∀ k, G k → F' k) : Stp w F w' G :=
  ⟨h.os, h.tape, h.output, h.size, h.block, fun k hk => h.own k (hg k hk)⟩
theorem Stp.frame {w w' : World} {F1 F2 F' : Nat → Prop} (h : Stp w F1 w' F') : Stp w (fun k => F1 k ∨ F2 k) w' (fun k => F' k ∨ F2 k) :=
  ⟨h.os, h.tape, h.output, h.size, fun k hk hn => h.block k hk (fun h => hn (.inl h)), fun k hk => hk.elim (fun hk => (h.own k hk).imp .inl id) (fun h => .inl (.inr h))⟩
def St (w0 : World) (F0 : Nat → Prop) (L : List Res) (w : World) : Prop := ∃ F, stars L w F ∧ Stp w0 F0 w F
theorem St.init {w : World} {F : Nat → Prop} {L : List Res} (h : stars L w F) : St w F L w := ⟨F, h, Stp.refl w F⟩
theorem St.conv {w0 : World} {F0 : Nat → Prop} {L L' M N : List Res} {w : World} (h : St w0 F0 L w) (hs : Sel L M L')
    (hc : ∀ w F, stars M w F → stars N w F) : St w0 F0 (N ++ L') w := by
  obtain ⟨F, hF, hst⟩ := h
  obtain ⟨F1, F2, h1, h2, hE, hd⟩ := hs.split hF
  have := stars_append (hc w F1 h1) h2 hd
  exact ⟨F, by rw [fp_eq hE]; exact this, hst⟩
theorem St.sel {w0 : World} {F0 : Nat → Prop} {L L' M : List Res} {w : World} (h : St w0 F0 L w) (hs : Sel L M L') : St w0 F0 M w := by
  obtain ⟨F, hF, hst⟩ := h
  obtain ⟨F1, F2, h1, h2, hE, hd⟩ := hs.split hF
  exact ⟨F1, h1, hst.weak fun k hk => (hE k).2 (.inl hk)⟩
theorem St.z {w0 : World} {F0 : Nat → Prop} {L L' M : List Res} {w : World} (h : St w0 F0 L w) (hs : Sel L M L' := by repeat (first | exact Sel.nil | (apply Sel.cons; · (repeat (first | exact Pick.here | apply Pick.there))))) : St w0 F0 M w := h.sel hs
theorem St.call {w0 : World} {F0 : Nat → Prop} {L' N : List Res} {w w' : World} {F F1 F2 : Nat → Prop} (hst : Stp w0 F0 w F)
    (h2 : stars L' w F2) (hE : ∀ k, F k ↔ F1 k ∨ F2 k) (hd : ∀ k, F1 k → ¬ F2 k) (h : St w F1 N w') : St w0 F0 (N ++ L') w' := by
  obtain ⟨G, hG, hs⟩ := h
  have h2' : stars L' w' F2 := stars_loc h2 fun k hk => hs.block k (stars_lt h2 k hk) (fun h1 => hd k h1 hk)
  refine ⟨fun k => G k ∨ F2 k, stars_append hG h2' ?_, ?_⟩
  · intro k hk hk2
    rcases hs.own k hk with h1 | h1
    · exact hd k h1 hk2
    · exact absurd (stars_lt h2 k hk2) (by omega)
  · have hs' := hs.frame (F2 := F2)
    rw [← fp_eq hE] at hs'
    exact hst.trans hs'
theorem Stp.old {w0 w : World} {F0 F : Nat → Prop} (h : Stp w0 F0 w F) {k : Nat} (hk : k < w0.heap.size) (hn : ¬ F0 k) : w.heap[k]? = w0.heap[k]? ∧ ¬ F k :=
  ⟨h.block k hk hn, fun hf => (h.own k hf).elim hn (fun h' => absurd h' (by omega))⟩
def blk (g : Nat) (T : TypeId) (cs : List Value) : Res where
  on w F := (∀ k, F k ↔ k = g) ∧ ∃ fz, w.heap[g]? = some (.cells cs.toArray T fz) ∧ okFz cs.length fz
  loc := fun ⟨hF, fz, h, hz⟩ hk => ⟨hF, fz, (hk g ((hF g).2 rfl)).trans h, hz⟩
  ok := fun ⟨hF, fz, h, hz⟩ k hk => by
    rw [(hF k).1 hk]
    exact ⟨_, h, hz⟩
def pureR (p : Prop) : Res where
  on _ F := (∀ k, ¬ F k) ∧ p
  loc := fun h _ => h
  ok := fun ⟨h, _⟩ k hk => absurd hk (h k)
def exR {α : Type} (f : α → Res) : Res where
  on w F := ∃ x, (f x).on w F
  loc := fun ⟨x, h⟩ hk => ⟨x, (f x).loc h hk⟩
  ok := fun ⟨x, h⟩ => (f x).ok h
def allR (L : List Res) : Res where
  on := stars L
  loc := stars_loc
  ok := stars_ok
def rdR (φ : World → (Nat → Prop) → Prop) (hloc : ∀ {w w' : World} {F : Nat → Prop}, φ w F → (∀ k, k < w.heap.size → F k → w'.heap[k]? = w.heap[k]?) → φ w' F) : Res where
  on w F := φ w F ∧ ∀ k, F k → okAt w k
  loc := fun {w w' F} ⟨h, hl⟩ hk => ⟨hloc h fun k _ hF => hk k hF, fun k hF => (hl k hF).mv (hk k hF)⟩
  ok := fun ⟨_, hl⟩ => hl
theorem stars_one {r : Res} {w : World} {F : Nat → Prop} (h : r.on w F) : stars [r] w F :=
  ⟨F, fun _ => False, h, fun _ h => h, fun k => by simp, fun _ _ h => h⟩
theorem stars_one' {r : Res} {w : World} {F : Nat → Prop} (h : stars [r] w F) : r.on w F := by
  obtain ⟨F1, F2, h1, h2, hF, _⟩ := h
  have : F = F1 := fp_eq fun k => (hF k).trans ⟨fun h => h.elim id (fun h => absurd h (h2 k)), .inl⟩
  rw [this]; exact h1
theorem stars_pure {p : Prop} {L : List Res} {w : World} {F : Nat → Prop} (h : stars (pureR p :: L) w F) : p ∧ stars L w F := by
  obtain ⟨F1, F2, ⟨h0, hp⟩, h2, hF, _⟩ := h
  have : F = F2 := fp_eq fun k => (hF k).trans ⟨fun h => h.elim (fun h => absurd h (h0 k)) id, .inr⟩
  exact ⟨hp, by rw [this]; exact h2⟩
theorem stars_pure_mk {p : Prop} {L : List Res} {w : World} {F : Nat → Prop} (hp : p) (h : stars L w F) : stars (pureR p :: L) w F :=
  ⟨fun _ => False, F, ⟨fun _ h => h, hp⟩, h, fun k => by simp, fun _ h => h.elim⟩
theorem stars_all {M L : List Res} {w : World} {F : Nat → Prop} (h : stars (allR M :: L) w F) : stars (M ++ L) w F := by
  obtain ⟨F1, F2, h1, h2, hF, hd⟩ := h
  rw [fp_eq hF]; exact stars_append h1 h2 hd
theorem stars_all_mk {M L : List Res} {w : World} {F : Nat → Prop} (h : stars (M ++ L) w F) : stars (allR M :: L) w F := by
  obtain ⟨F1, F2, h1, h2, hF, hd⟩ := stars_split h
  exact ⟨F1, F2, h1, h2, hF, hd⟩
theorem stars_ex {α : Type} {f : α → Res} {L : List Res} {w : World} {F : Nat → Prop} (h : stars (exR f :: L) w F) : ∃ x, stars (f x :: L) w F := by
  obtain ⟨F1, F2, ⟨x, h1⟩, h2, hF, hd⟩ := h
  exact ⟨x, F1, F2, h1, h2, hF, hd⟩
theorem stars_ex_mk {α : Type} {f : α → Res} {L : List Res} {w : World} {F : Nat → Prop} (x : α) (h : stars (f x :: L) w F) : stars (exR f :: L) w F := by
  obtain ⟨F1, F2, h1, h2, hF, hd⟩ := h
  exact ⟨F1, F2, ⟨x, h1⟩, h2, hF, hd⟩
theorem stars_pick {L L' : List Res} {r : Res} (h : Pick L r L') {w : World} {F : Nat → Prop} (hs : stars L w F) : ∃ F1, r.on w F1 ∧ ∀ k, F1 k → F k := by
  obtain ⟨F1, F2, h1, _, hF, _⟩ := h.stars hs
  exact ⟨F1, h1, fun k hk => (hF k).2 (.inl hk)⟩
end
section
def FR (ro : Option Nat) : Fence := { Fence.wide with round := ro }
theorem callsIn_FR {ro : Option Nat} {n : Nat} {P : Program} {f : FuncId} {args : Array Value} {w : World} {R : Ending → World → Prop} : CallsIn (FR ro) n P f args w R ↔ Calls P f args w R :=
  Iff.trans (Iff.of_eq rfl) (callsIn_wide (n := n))
theorem deep_FR (ro : Option Nat) {n : Nat} : (FR ro).depth.isSome = true → 1 ≤ n := fun h => by simp [FR, Fence.wide] at h
section
variable {ro : Option Nat} {P : Program} {ops : Array Oper} {w : World}
theorem semAt_ok {o : Oper} {ρ : Operand → Value} {r : Next} {w' : World} (hne : ∀ d, r ≠ .defer d) (h : (execOp ρ o).run P w = .ok r w') : (o.semAt ro ρ).run P w = .ok r w' := by
  by_cases hd : ∃ c, o.op = .defer c
  · obtain ⟨c, hc⟩ := hd
    exfalso
    unfold execOp at h
    rw [hc] at h
    simp only [Sem.run_bind] at h
    generalize (resolve ρ c o.type).run P w = q at h
    cases q with
    | ok d w2 =>
      simp only [Result.andThen_ok, Sem.run_pure, Result.ok.injEq] at h
      exact hne _ h.1.symm
    | halt x w2 => cases h
  · rw [Oper.semAt_eq _ _ _ (fun c hc => hd ⟨c, hc⟩)]; exact h
theorem Oper.wpIn_value {o : Oper} {a : Act} {K : Act → World → Prop} {Q : Exit → Act → World → Prop} {v : Value} {w' : World} (h : (execOp a.eval o).run P w = .ok (.value v) w') (k : K (a.put o.dst v) w') : o.wpIn (FR ro) 0 P a w K Q := by
  refine ⟨fun _ _ => trivial, ?_⟩
  rw [show (FR ro).round = ro from rfl, semAt_ok (by intro d h; cases h) h]
  exact k
theorem Oper.wpIn_skip {o : Oper} {a : Act} {K : Act → World → Prop} {Q : Exit → Act → World → Prop} {w' : World} (h : (execOp a.eval o).run P w = .ok .skip w') (k : K (a.put o.dst undef) w') : o.wpIn (FR ro) 0 P a w K Q := by
  refine ⟨fun _ _ => trivial, ?_⟩
  rw [show (FR ro).round = ro from rfl, semAt_ok (by intro d h; cases h) h]
  exact k
theorem Oper.wpIn_enter {o : Oper} {a : Act} {K : Act → World → Prop} {Q : Exit → Act → World → Prop} {f : FuncId} {args : Array Value} {w' : World} (h : (execOp a.eval o).run P w = .ok (.enter f args) w')
    (k : Calls P f args w' fun e w'' => ∃ v, e = .returned v ∧ K (a.put o.dst v) w'') : o.wpIn (FR ro) 0 P a w K Q := by
  refine ⟨fun _ _ => trivial, ?_⟩
  rw [show (FR ro).round = ro from rfl, semAt_ok (by intro d h; cases h) h]
  refine ⟨deep_FR ro, callsIn_FR.2 (k.mono ?_)⟩
  rintro e w'' ⟨v, rfl, hk⟩
  exact hk
theorem Oper.wpIn_round {o : Oper} {a : Act} {K : Act → World → Prop} {Q : Exit → Act → World → Prop} {l : Nat} {f : FuncId} {tmps : Array Value} {asg bd : Code} {w' : World} (h : (execOp a.eval o).run P w = .ok (.round l f tmps asg bd) w')
    (k : RoundIn (FR ro) 0 P l f tmps asg bd w' fun e w'' => ∃ v, e = .returned v ∧ K (a.put o.dst v) w'') : o.wpIn (FR ro) 0 P a w K Q := by
  refine ⟨fun _ _ => trivial, ?_⟩
  rw [show (FR ro).round = ro from rfl, semAt_ok (by intro d h; cases h) h]
  refine ⟨deep_FR ro, k.mono ?_⟩
  rintro e w'' ⟨v, rfl, hk⟩
  exact hk
theorem Oper.wpIn_of_still {o : Oper} {a : Act} {K : Act → Prop} {K' : Act → World → Prop} {Q' : Exit → Act → World → Prop} (h : ∀ a, K a → K' a w) (hh : o.still P a w K) : o.wpIn (FR ro) 0 P a w K' Q' := by
  unfold Oper.still at hh
  generalize hr : (execOp a.eval o).run P w = r at hh
  cases r with
  | ok m w' =>
    cases m <;> simp only [Oper.stillUpon] at hh
    case value v => obtain ⟨rfl, h2⟩ := hh; exact Oper.wpIn_value hr (h _ h2)
    case skip => obtain ⟨rfl, h2⟩ := hh; exact Oper.wpIn_skip hr (h _ h2)
    case enter f args =>
      obtain ⟨rfl, v, hc, hn⟩ := hh
      exact Oper.wpIn_enter hr (hc.mono fun e w'' ⟨he, hw⟩ => ⟨v, he, by subst hw; exact h _ hn⟩)
  | halt x w' => simp only [Oper.stillUpon] at hh
theorem wpOpIn_of_stOp {i : Nat} {a : Act} {K : Act → Prop} {K' : Act → World → Prop} {Q' : Exit → Act → World → Prop} (h : ∀ a, K a → K' a w) (hh : stOp P ops w i K a) : wpOpIn (FR ro) 0 P ops Q' i K' a w := by
  unfold stOp at hh
  unfold wpOpIn
  split
  · rename_i ho; simp only [ho] at hh; exact h _ hh
  · rename_i o ho
    simp only [ho] at hh
    split
    · rename_i hw; simp only [hw, if_true] at hh; exact Oper.wpIn_of_still h hh
    · rename_i hw; simp only [hw] at hh; exact ⟨fun _ _ => trivial, h _ hh⟩
theorem wpAnyIn_of_still {md : Region.Mode} {Q : Act → Prop} {Q' : Exit → Act → World → Prop} (hQ : ∀ a, Q a → Q' .normal a w) : ∀ (fuel : Nat) (listed : Array Bool) (a : Act),
    wpAnyS P md ops w Q fuel listed a → wpAnyIn (FR ro) 0 P md ops Q' fuel listed a w
  | 0, _, _, h => ⟨h.1, hQ _ h.2⟩
  | fuel + 1, _, _, h => ⟨fun h0 => hQ _ (h.1 h0), fun i hi => wpOpIn_of_stOp (fun a' => wpAnyIn_of_still hQ fuel _ a') (h.2 i hi)⟩
theorem wpIn_region_S {id : Nat} {Q : Exit → Act → World → Prop} {a : Act} {l : List Oper} (hm : P.follows .mixedOrders = true) (hB : Region.lexB .any l.toArray = true)
    (h : wpStill P l.toArray { w with drawn := w.drawn + 1 } (fun a' => Q .normal a' { w with drawn := w.drawn + 1 }) l a) : (Code.region id l.toArray true).wpIn (FR ro) 0 P Q a w := by
  simp only [Region.lexB, Bool.and_eq_true] at hB
  refine wpIn_region_any hm (wpAnyIn_of_still (Q := fun a' => Q .normal a' { w with drawn := w.drawn + 1 }) (fun _ h => h) _ _ _ ?_)
  have := wpAnyS_lex (md := .any) hB.1 l 0 (Array.replicate l.toArray.size false) a (by simp) (by simpa using hB.2) h
  simpa using this
theorem wpAnyIn_of_head {md : Region.Mode} {n g : Nat} {L : Array Bool → Act → Prop} {Q' : Exit → Act → World → Prop} (hL : ∀ listed a, L listed a → wpAnyIn (FR ro) 0 P md ops Q' g listed a w) :
    ∀ (f : Nat) (listed : Array Bool) (a : Act), wpAnyL P md ops w n L f listed a → wpAnyIn (FR ro) 0 P md ops Q' (f + g) listed a w
  | 0, listed, a, h => by rw [Nat.zero_add]; exact hL _ _ h
  | f + 1, listed, a, h => by
    rw [show f + 1 + g = (f + g) + 1 by omega]
    exact ⟨fun h0 => absurd h0 h.1, fun i hi => wpOpIn_of_stOp (fun a' h' => wpAnyIn_of_head hL f _ a' h') (h.2 i hi).2⟩
theorem wpAnyIn_of_seq {md : Region.Mode} {Q' : Exit → Act → World → Prop} : ∀ (l : List Oper) (k : Nat) (listed : Array Bool) (a : Act) (w : World), (∀ j, l[j]? = ops[k + j]?) →
    Region.seqB md ops l.length k listed = true → wpListIn (FR ro) 0 P ops Q' l a w → wpAnyIn (FR ro) 0 P md ops Q' l.length listed a w
  | [], _, _, _, _, _, hB, h => ⟨by simpa [Region.seqB] using hB, h⟩
  | o :: l, k, listed, a, w, hl, hB, h => by
    have h0 : ops[k]? = some o := by simpa using (hl 0).symm
    simp only [List.length_cons, Region.seqB, Bool.and_eq_true, decide_eq_true_eq] at hB
    refine ⟨fun h1 => (by rw [hB.1] at h1; cases h1), fun i hi => ?_⟩
    rw [hB.1] at hi
    have hik : i = k := by simpa using hi
    subst hik
    have hw : wpOpIn (FR ro) 0 P ops Q' i (wpListIn (FR ro) 0 P ops Q' l) a w := by unfold wpOpIn; simp only [h0]; exact h
    exact wpOpIn_mono (fun a' w' h' => wpAnyIn_of_seq l (i + 1) _ a' w' (fun j => by have := hl (j + 1); simpa [Nat.add_assoc, Nat.add_comm 1 j] using this) hB.2 h') hw
theorem wpIn_region_T {id : Nat} {Q : Exit → Act → World → Prop} {a : Act} {l : List Oper} (n : Nat) (hm : P.follows .mixedOrders = true) (hB : Region.lexTailB .any l.toArray n = true)
    (h : wpStill P l.toArray { w with drawn := w.drawn + 1 } (fun a' => wpListIn (FR ro) 0 P l.toArray Q (l.drop n) a' { w with drawn := w.drawn + 1 }) (l.take n) a) : (Code.region id l.toArray true).wpIn (FR ro) 0 P Q a w := by
  simp only [Region.lexTailB, Bool.and_eq_true, decide_eq_true_eq] at hB
  obtain ⟨⟨⟨⟨hsel, hn⟩, hs⟩, hc⟩, hlex⟩ := hB
  have hn' : n < l.length := by simpa using hn
  have htl : (l.take n).length = n := by simp; omega
  have hdl : (l.drop n).length = l.toArray.size - n := by simp
  have inv0 : HeadInv .any l.toArray n (Array.replicate l.toArray.size false) :=
    ⟨by simp, fun j oj _ hl => (by rw [getD_replicate_false] at hl; cases hl), fun t _ ht => getD_in (by simpa using ht) (getD_replicate_false _ _)⟩
  have H := wpAnyL_lex (md := .any) (g := l.toArray.size - n) hsel hs hc hn (l.take n) 0 _ a (fun j hj => by
    have hj' : j < n := by rw [htl] at hj; exact hj
    simp [hj']) (by simpa using htl) inv0 (by rw [htl]; exact hlex) h
  refine wpIn_region_any hm ?_
  have := wpAnyIn_of_head (ro := ro) (Q' := Q) (g := l.toArray.size - n) (fun listed a' hL => by
    have := wpAnyIn_of_seq (ro := ro) (md := .any) (Q' := Q) (l.drop n) n listed a' { w with drawn := w.drawn + 1 } (fun j => by simp [List.getElem?_drop]) (by rw [hdl]; exact hL.1) hL.2
    rwa [hdl] at this) _ _ _ H
  rw [htl, show n + (l.toArray.size - n) = l.toArray.size by omega] at this
  exact this
def noDef (ops : Array Oper) : Bool := ops.all fun o => match o.op with | .defer _ => false | _ => true
theorem noDef_spec (h : noDef ops = true) {j : Nat} {o : Oper} (hj : ops[j]? = some o) : ∀ c, o.op ≠ .defer c := fun c hc => by
  have h1 := Array.all_eq_true.1 h j (Array.getElem?_eq_some_iff.1 hj).1
  rw [(Array.getElem?_eq_some_iff.1 hj).2] at h1
  simp [hc] at h1
theorem YieldsIf.wpOpIn {S : World → Prop} {Q : Exit → Act → World → Prop} {i : Nat} {o : Oper} {v : Value} {a : Act} (hi : ops[i]? = some o) (hy : YieldsIf P ops S o v a)
    {K : Act → World → Prop} (hS : S w) (h : K (a.put o.dst v) w) : wpOpIn (FR ro) 0 P ops Q i K a w := by
  unfold Go.wpOpIn
  simp only [hi]
  rcases hy with ⟨hw, hv⟩ | ⟨hw, rfl⟩
  · simp only [hw, if_true]; exact Oper.wpIn_value (hv w hS) h
  · simp only [hw, Bool.false_eq_true, if_false]; exact ⟨fun _ _ => trivial, h⟩
theorem wpOpIn_putIf {S : World → Prop} {Q : Exit → Act → World → Prop} {j : Nat} {oi oj : Oper} {v : Value} (hj : ops[j]? = some oj) (hap : oi.apart ops oj = true)
    (hsi : ∀ cs b, oi.op ≠ .select cs b) (hsj : ∀ cs b, oj.op ≠ .select cs b) (hnd : ∀ c, oj.op ≠ .defer c)
    (hQ : ∀ c a w, Q (.panic c) (a.put oi.dst v) w → Q (.panic c) a w) {K : Act → World → Prop} {a : Act}
    (hy : YieldsIf P ops S oi v a) (h : wpOpIn (FR ro) 0 P ops Q j K (a.put oi.dst v) w) :
    wpOpIn (FR ro) 0 P ops Q j (fun a' w' => YieldsIf P ops S oi v a' ∧ K (a'.put oi.dst v) w') a w := by
  obtain ⟨h1, h2, h3⟩ := Oper.apart_spec hap
  have keep : ∀ (a : Act), YieldsIf P ops S oi v a → ∀ u, YieldsIf P ops S oi v (a.put oj.dst u) := fun a hy u =>
    hy.of_same (execOp_put oi hsi a oj.dst u h3) (wanted_put oi a oj.dst u h3)
  have keepD : ∀ d, YieldsIf P ops S oi v { a with defers := d :: a.defers } := fun d => hy.of_same rfl rfl
  unfold Go.wpOpIn at *
  simp only [hj] at *
  rw [wanted_put oj a oi.dst v h1] at h
  split
  · rename_i hw
    simp only [hw, if_true] at h
    unfold Oper.wpIn at *
    refine ⟨fun _ _ => trivial, ?_⟩
    have h := h.2
    rw [Oper.semAt_eq _ _ _ hnd, execOp_put oj hsj a oi.dst v h1] at h
    rw [Oper.semAt_eq _ _ _ hnd]
    generalize (execOp a.eval oj).run P w = r at *
    cases r with
    | ok m w' =>
      cases m <;> simp only [Oper.uponIn] at h ⊢
      case value u => exact ⟨keep a hy u, by rw [← Act.put_comm a v u h2]; exact h⟩
      case skip => exact ⟨keep a hy _, by rw [← Act.put_comm a v undef h2]; exact h⟩
      case defer d =>
        refine ⟨keep _ (keepD d) _, ?_⟩
        rw [← Act.put_comm _ v undef h2, ← Act.put_defers]
        exact h
      case enter f args =>
        refine ⟨h.1, CallsIn.mono h.2 fun e w'' he => ?_⟩
        cases e with
        | returned u => exact ⟨keep a hy u, by rw [← Act.put_comm a v u h2]; exact he⟩
        | panicked c => exact hQ _ _ _ he
        | outgrown => exact he
      case row row args => exact ⟨h.1, RowsIn.mono h.2 fun u w'' he => ⟨keep a hy u, by rw [← Act.put_comm a v u h2]; exact he⟩⟩
      case round l f tmps asg bd =>
        refine ⟨h.1, RoundIn.mono h.2 fun e w'' he => ?_⟩
        cases e with
        | returned u => exact ⟨keep a hy u, by rw [← Act.put_comm a v u h2]; exact he⟩
        | panicked c => exact hQ _ _ _ he
        | outgrown => exact he
    | halt x w' =>
      cases x <;> simp only [Oper.uponIn] at h ⊢
      case panic u => exact hQ _ _ _ h
  · rename_i hw
    simp only [hw] at h
    exact ⟨fun _ _ => trivial, keep a hy _, by rw [← Act.put_comm a v undef h2]; exact h.2⟩
end
end
section
section types
variable {P : Program} {T : TypeId} {w : World}
theorem run_sz {n : Nat} (h : szT P T = some n) : (sizeOf T).run P w = .ok n w := by
  unfold szT at h
  cases hi : P.info? T with
  | none => simp [hi] at h
  | some i => simp [hi] at h; simp [sizeOf, typeInfo, hi, h]
theorem run_rowT {b : Bool} (h : rowT P T = some b) : (isAgg T).run P w = .ok b w := by
  unfold rowT at h
  cases hu : P.underlying T with
  | none => simp [hu] at h
  | some d =>
    simp only [hu, Option.map_some, Option.some.injEq] at h
    unfold isAgg
    rw [Sem.run_bind, run_underlying hu w]
    subst h
    cases d <;> rfl
theorem run_zeroT {z : Value} (h : zeroT P T = some z) : (zeroValue T).run P w = .ok z w := by
  unfold zeroT at h
  cases hi : P.info? T with
  | none => simp [hi] at h
  | some i => simp [hi] at h; simp [zeroValue, typeInfo, hi, h]
theorem run_sliceT {e : TypeId} (h : sliceT P T = some e) : P.underlying T = some (.slice e) := by
  unfold sliceT at h
  cases hu : P.underlying T with
  | none => simp [hu] at h
  | some d => cases d <;> simp [hu] at h ⊢; exact h
theorem run_arrT {n e : Nat} (h : arrT P T = some (n, e)) : P.underlying T = some (.array n e) := by
  unfold arrT at h
  cases hu : P.underlying T with
  | none => simp [hu] at h
  | some d => cases d <;> simp [hu] at h ⊢; exact h
end types
def Gl (P : Program) (w0 : World) (F0 : Nat → Prop) (L : List Res) (ops : Array Oper) (Q : Exit → Act → World → Prop) (rest : List Oper) (n : Fm) (env : Env) : Prop :=
  ∀ w, St w0 F0 L w → wpListIn (FR n.ro) 0 P ops Q rest (fr n env) w
abbrev cwp (n : Fm) (P : Program) (c : Code) (Q : Exit → Act → World → Prop) : Act → World → Prop := c.wpIn (FR n.ro) 0 P Q
def Gc (P : Program) (w0 : World) (F0 : Nat → Prop) (L : List Res) (c : Code) (Q : Exit → Act → World → Prop) (n : Fm) (env : Env) : Prop :=
  ∀ w, St w0 F0 L w → c.wpIn (FR n.ro) 0 P Q (fr n env) w
def Gx (w0 : World) (F0 : Nat → Prop) (L : List Res) (Q : Exit → Act → World → Prop) (e : Exit) (n : Fm) (env : Env) : Prop :=
  ∀ w, St w0 F0 L w → Q e (fr n env) w
def Runs (P : Program) (w0 : World) (F0 : Nat → Prop) (L : List Res) (n : Fm) (env : Env) (o : Oper) (v : Value) : Prop :=
  ∀ w, St w0 F0 L w → (execOp (ev n env) o).run P w = .ok (.value v) w
section code
variable {P : Program} {w0 : World} {F0 : Nat → Prop} {L : List Res} {Q Q' : Exit → Act → World → Prop} {n : Fm} {env : Env} {ops : Array Oper} {rest : List Oper}
theorem gc_seq {x y : Code} (h : Gc P w0 F0 L x (Exit.then (cwp n P y Q) Q) n env) : Gc P w0 F0 L (.seq x y) Q n env := fun w hw => wpIn_seq (h w hw)
theorem gc_region {id : Nat} {l : List Oper} (h : Gl P w0 F0 L l.toArray Q l n env) : Gc P w0 F0 L (.region id l.toArray false) Q n env := fun w hw => wpIn_region_lit (h w hw)
theorem gc_cond {c : Operand} {x y : Code} {b : Bool} (hc : ev n env c = .bool b) (ht : b = true → Gc P w0 F0 L x Q n env) (hf : b = false → Gc P w0 F0 L y Q n env) : Gc P w0 F0 L (.cond c x y) Q n env :=
  fun w hw => wpIn_cond_split (by rw [fr_eval]; exact hc) (fun h => ht h w hw) (fun h => hf h w hw)
theorem gc_block {id : Nat} {c : Code} (h : Gc P w0 F0 L c (Exit.inBlock id Q) n env) : Gc P w0 F0 L (.block id c) Q n env := fun w hw => wpIn_block (h w hw)
theorem gc_skip (h : Gx w0 F0 L Q .normal n env) : Gc P w0 F0 L .skip Q n env := fun w hw => wpIn_skip (h w hw)
theorem gc_exit {id : Nat} (h : Gx w0 F0 L Q (.exit id) n env) : Gc P w0 F0 L (.exit id) Q n env := fun w hw => wpIn_exit (h w hw)
theorem gc_ret (h : Gx w0 F0 L Q .ret n env) : Gc P w0 F0 L .ret Q n env := fun w hw => wpIn_ret (h w hw)
theorem gl_nil (h : Gx w0 F0 L Q .normal n env) : Gl P w0 F0 L ops Q [] n env := fun w hw => h w hw
theorem gx_then {y : Code} (h : Gc P w0 F0 L y Q n env) : Gx w0 F0 L (Exit.then (cwp n P y Q) Q') .normal n env := h
theorem gx_then_exit {K : Act → World → Prop} {id : Nat} (h : Gx w0 F0 L Q (.exit id) n env) : Gx w0 F0 L (Exit.then K Q) (.exit id) n env := h
theorem gx_then_ret {K : Act → World → Prop} (h : Gx w0 F0 L Q .ret n env) : Gx w0 F0 L (Exit.then K Q) .ret n env := h
theorem gx_block_ret {id : Nat} (h : Gx w0 F0 L Q .ret n env) : Gx w0 F0 L (Exit.inBlock id Q) .ret n env := h
theorem gx_block_normal {id : Nat} (h : Gx w0 F0 L Q .normal n env) : Gx w0 F0 L (Exit.inBlock id Q) .normal n env := h
theorem gx_block_hit {id : Nat} (h : Gx w0 F0 L Q .normal n env) : Gx w0 F0 L (Exit.inBlock id Q) (.exit id) n env := fun w hw => by
  simp only [Exit.inBlock, if_true]; exact h w hw
theorem g_enter {f : FuncId} {fn : Func} {c : Code} {args : Array Value} {w : World} {F : Nat → Prop} {R : Ending → World → Prop} (hf : P.funcs[f]? = some fn) (hb : fn.body = some c)
    (hs : stars L w F) {nt : Nat} (hnt : fn.ntmps = nt) (hn : Nat.ble args.size nt = true) (henv : enumE 0 args.toList = env) (h : Gc P w F L c (bodyPost P fn R) ⟨nt, [], none⟩ env) : Calls P f args w R :=
  calls_of_wp hf hb (by subst hnt; subst henv; rw [fr_init _ _ (by exact Nat.le_of_ble_eq_true hn)]; exact wpIn_wide.1 (h w (St.init hs)))
theorem gx_end {fn : Func} {R : Ending → World → Prop} {v : Value} (h : ∀ w, St w0 F0 L w → (results fn (fr n env).tmps).run P w = .ok v w)
    (hR : ∀ w, St w0 F0 L w → R (.returned v) w) (hd : n.ds = [] := by rfl) : Gx w0 F0 L (bodyPost P fn R) .ret n env := fun w hw => ⟨hd, v, h w hw, hR w hw⟩
theorem gx_end' {fn : Func} {R : Ending → World → Prop} {v : Value} (h : ∀ w, St w0 F0 L w → (results fn (fr n env).tmps).run P w = .ok v w)
    (hR : ∀ w, St w0 F0 L w → R (.returned v) w) (hd : n.ds = [] := by rfl) : Gx w0 F0 L (bodyPost P fn R) .normal n env := fun w hw => ⟨hd, v, h w hw, hR w hw⟩
theorem gx_ret0 {fn : Func} {R : Ending → World → Prop} (hr : fn.results = #[]) (hR : ∀ w, St w0 F0 L w → R (.returned (.tuple #[])) w) (hd : n.ds = [] := by rfl) : Gx w0 F0 L (bodyPost P fn R) .ret n env :=
  gx_end (fun w _ => results_none hr _ _ _) hR hd
theorem gx_ret0' {fn : Func} {R : Ending → World → Prop} (hr : fn.results = #[]) (hR : ∀ w, St w0 F0 L w → R (.returned (.tuple #[])) w) (hd : n.ds = [] := by rfl) : Gx w0 F0 L (bodyPost P fn R) .normal n env :=
  gx_end' (fun w _ => results_none hr _ _ _) hR hd
theorem fr_tmp {t : Nat} {v : Value} (hv : ev n env (.tmp t) = v) : (fr n env).tmps.getD t undef = v := by rw [← hv, ← fr_eval]; rfl
theorem fr_tmp' {t : Nat} {v : Value} (hv : ev n env (.tmp t) = v) : ((fr n env).tmps[t]?).getD undef = v := by
  have := fr_tmp hv
  rwa [Array.getD_eq_getD_getElem?] at this
theorem gx_ret1 {fn : Func} {R : Ending → World → Prop} {t : Tmp} {v : Value} (hr : fn.results = #[.tmp t]) (hv : ev n env (.tmp t) = v) (hR : ∀ w, St w0 F0 L w → R (.returned v) w) (hd : n.ds = [] := by rfl) : Gx w0 F0 L (bodyPost P fn R) .ret n env :=
  gx_end (fun w _ => by rw [results_tmp hr, fr_tmp hv]) hR hd
theorem gx_ret2 {fn : Func} {R : Ending → World → Prop} {t u : Tmp} {v x : Value} (hr : fn.results = #[.tmp t, .tmp u]) (hv : ev n env (.tmp t) = v) (hx : ev n env (.tmp u) = x)
    (hR : ∀ w, St w0 F0 L w → R (.returned (.tuple #[v, x])) w) (hd : n.ds = [] := by rfl) : Gx w0 F0 L (bodyPost P fn R) .ret n env :=
  gx_end (fun w _ => by rw [results_tmp2 hr, fr_tmp hv, fr_tmp hx]) hR hd
theorem gx_retc {fn : Func} {R : Ending → World → Prop} {t : Tmp} {T : TypeId} {a : Addr} {v : Value} (hr : fn.results = #[.cell t T]) (ht : ev n env (.tmp t) = .pointer (some a))
    (hl : ∀ w, St w0 F0 L w → (loadVar T a).run P w = .ok v w) (hR : ∀ w, St w0 F0 L w → R (.returned v) w) (hd : n.ds = [] := by rfl) : Gx w0 F0 L (bodyPost P fn R) .ret n env :=
  gx_end (fun w hw => by simp [results, hr, fr_tmp' ht, asAddr, hl w hw]) hR hd
theorem gx_retct {fn : Func} {R : Ending → World → Prop} {t u : Tmp} {T : TypeId} {a : Addr} {v x : Value} (hr : fn.results = #[.cell t T, .tmp u]) (ht : ev n env (.tmp t) = .pointer (some a)) (hx : ev n env (.tmp u) = x)
    (hl : ∀ w, St w0 F0 L w → (loadVar T a).run P w = .ok v w) (hR : ∀ w, St w0 F0 L w → R (.returned (.tuple #[v, x])) w) (hd : n.ds = [] := by rfl) : Gx w0 F0 L (bodyPost P fn R) .ret n env :=
  gx_end (fun w hw => by simp [results, hr, fr_tmp' ht, fr_tmp' hx, asAddr, hl w hw]) hR hd
def Wt (ops : Array Oper) (n : Fm) (env : Env) (o : Oper) (b : Bool) : Prop := Region.wanted o (yielded ops (fr n env).tmps) = b
theorem wt0 {o : Oper} (h : o.guard = none) : Wt ops n env o true := by simp [Wt, Region.wanted, h]
theorem fr_get? {t : Nat} {v : Value} (ht : Nat.blt t n.nt = true) (hv : Env.get env t = v) : (fr n env).tmps[t]? = some v := by
  rw [Nat.blt_eq] at ht
  simp [fr, Array.getElem?_ofFn, ht, hv]
theorem wtg {o : Oper} {j d : Nat} {b c : Bool} (h : o.guard = some (j, b)) (hd : (ops[j]?).bind (·.dst) = some d) (ht : Nat.blt d n.nt = true) (hv : Env.get env d = .bool c) : Wt ops n env o (c == b) := by
  simp [Wt, Region.wanted, h, yielded, hd, fr_get? ht hv]
theorem gl_pure0 {o : Oper} {v : Value} (hw : Wt ops n env o true) (h : Runs P w0 F0 L n env o v) (k : Gl P w0 F0 L ops Q rest n (pu o.dst v env)) : Gl P w0 F0 L ops Q (o :: rest) n env := by
  intro w hs
  unfold wpListIn
  rw [if_pos (show Region.wanted o _ = true from hw)]
  exact Oper.wpIn_value (by rw [fr_eval]; exact h w hs) (by rw [fr_put]; exact k w hs)
theorem gl_pure {d : Tmp} {op : Op} {ty : TypeId} {pos : String} {af : Array Edge} {gd : Option (Nat × Bool)} {v : Value} (hw : Wt ops n env ⟨some d, op, ty, pos, af, gd⟩ true) (h : Runs P w0 F0 L n env ⟨some d, op, ty, pos, af, gd⟩ v)
    (k : Gl P w0 F0 L ops Q rest n ((d, v) :: env)) : Gl P w0 F0 L ops Q (⟨some d, op, ty, pos, af, gd⟩ :: rest) n env := gl_pure0 hw h k
theorem gl_passD {d : Tmp} {op : Op} {ty : TypeId} {pos : String} {af : Array Edge} {gd : Option (Nat × Bool)} (hw : Wt ops n env ⟨some d, op, ty, pos, af, gd⟩ false)
    (k : Gl P w0 F0 L ops Q rest n ((d, undef) :: env)) : Gl P w0 F0 L ops Q (⟨some d, op, ty, pos, af, gd⟩ :: rest) n env := by
  intro w hs
  unfold wpListIn
  rw [if_neg (by rw [show Region.wanted _ _ = false from hw]; simp), fr_put]
  exact ⟨fun _ _ => trivial, k w hs⟩
theorem gl_eff {o : Oper} {L' : List Res} {v : Value} (hw : Wt ops n env o true) (h : ∀ w, St w0 F0 L w → ∃ w', (execOp (ev n env) o).run P w = .ok (.value v) w' ∧ St w0 F0 L' w')
    (k : Gl P w0 F0 L' ops Q rest n (pu o.dst v env)) : Gl P w0 F0 L ops Q (o :: rest) n env := by
  intro w hs
  obtain ⟨w', hr, hs'⟩ := h w hs
  unfold wpListIn
  rw [if_pos (show Region.wanted o _ = true from hw)]
  exact Oper.wpIn_value (by rw [fr_eval]; exact hr) (by rw [fr_put]; exact k w' hs')
theorem gl_effx {o : Oper} {α : Type} {L' : α → List Res} {v : α → Value} (hw : Wt ops n env o true) (h : ∀ w, St w0 F0 L w → ∃ x w', (execOp (ev n env) o).run P w = .ok (.value (v x)) w' ∧ St w0 F0 (L' x) w')
    (k : ∀ x, Gl P w0 F0 (L' x) ops Q rest n (pu o.dst (v x) env)) : Gl P w0 F0 L ops Q (o :: rest) n env := by
  intro w hs
  obtain ⟨x, w', hr, hs'⟩ := h w hs
  unfold wpListIn
  rw [if_pos (show Region.wanted o _ = true from hw)]
  exact Oper.wpIn_value (by rw [fr_eval]; exact hr) (by rw [fr_put]; exact k x w' hs')
theorem gl_skip {o : Oper} {L' : List Res} (hw : Wt ops n env o true) (h : ∀ w, St w0 F0 L w → ∃ w', (execOp (ev n env) o).run P w = .ok .skip w' ∧ St w0 F0 L' w')
    (k : Gl P w0 F0 L' ops Q rest n (pu o.dst undef env)) : Gl P w0 F0 L ops Q (o :: rest) n env := by
  intro w hs
  obtain ⟨w', hr, hs'⟩ := h w hs
  unfold wpListIn
  rw [if_pos (show Region.wanted o _ = true from hw)]
  exact Oper.wpIn_skip (by rw [fr_eval]; exact hr) (by rw [fr_put]; exact k w' hs')
def Post {α : Type} (w : World) (F : Nat → Prop) (V : α → Value) (N : α → List Res) : Ending → World → Prop := fun e w' => ∃ x, e = .returned (V x) ∧ St w F (N x) w'
theorem gl_call0 {o : Oper} {L' M : List Res} {α : Type} {V : α → Value} {N : α → List Res} {f : FuncId} {args : Array Value} (hw : Wt ops n env o true)
    (he : ∀ w, (execOp (ev n env) o).run P w = .ok (.enter f args) w) (hsel : Sel L M L')
    (hc : ∀ w F1 F2, stars M w F1 → stars L' w F2 → (∀ k, F1 k → ¬ F2 k) → Stp w0 F0 w (fun k => F1 k ∨ F2 k) → Calls P f args w (Post w F1 V N))
    (k : ∀ x, Gl P w0 F0 (N x ++ L') ops Q rest n (pu o.dst (V x) env)) : Gl P w0 F0 L ops Q (o :: rest) n env := by
  intro w hs
  obtain ⟨F, hF, hst⟩ := hs
  obtain ⟨F1, F2, h1, h2, hE, hd⟩ := hsel.split hF
  have hst' : Stp w0 F0 w (fun k => F1 k ∨ F2 k) := by rw [← fp_eq hE]; exact hst
  unfold wpListIn
  rw [if_pos (show Region.wanted o _ = true from hw)]
  refine Oper.wpIn_enter (by rw [fr_eval]; exact he w) ((hc w F1 F2 h1 h2 hd hst').mono ?_)
  rintro e w' ⟨x, rfl, hx⟩
  exact ⟨V x, rfl, by rw [fr_put]; exact k x w' (St.call hst h2 hE hd hx)⟩
theorem gl_call {d : Tmp} {op : Op} {ty : TypeId} {pos : String} {af : Array Edge} {gd : Option (Nat × Bool)} {L' M : List Res} {α : Type} {V : α → Value} {N : α → List Res} {f : FuncId} {args : Array Value} (hw : Wt ops n env ⟨some d, op, ty, pos, af, gd⟩ true)
    (he : ∀ w, (execOp (ev n env) ⟨some d, op, ty, pos, af, gd⟩).run P w = .ok (.enter f args) w) (hsel : Sel L M L')
    (hc : ∀ w F1 F2, stars M w F1 → stars L' w F2 → (∀ k, F1 k → ¬ F2 k) → Stp w0 F0 w (fun k => F1 k ∨ F2 k) → Calls P f args w (Post w F1 V N))
    (k : ∀ x, Gl P w0 F0 (N x ++ L') ops Q rest n ((d, V x) :: env)) : Gl P w0 F0 L ops Q (⟨some d, op, ty, pos, af, gd⟩ :: rest) n env := gl_call0 hw he hsel hc k
theorem gl_conv {L' M N : List Res} (hs : Sel L M L') (hc : ∀ w F, stars M w F → stars N w F) (k : Gl P w0 F0 (N ++ L') ops Q rest n env) : Gl P w0 F0 L ops Q rest n env := fun w hw => k w (hw.conv hs hc)
theorem gl_pureR {p : Prop} (k : p → Gl P w0 F0 L ops Q rest n env) : Gl P w0 F0 (pureR p :: L) ops Q rest n env := fun w ⟨F, hF, hst⟩ => k (stars_pure hF).1 w ⟨F, (stars_pure hF).2, hst⟩
theorem gl_fact {p : Prop} (h : ∀ w, St w0 F0 L w → p) (k : p → Gl P w0 F0 L ops Q rest n env) : Gl P w0 F0 L ops Q rest n env := fun w hw => k (h w hw) w hw
theorem gc_conv {c : Code} {L' M N : List Res} (hs : Sel L M L') (hc : ∀ w F, stars M w F → stars N w F) (k : Gc P w0 F0 (N ++ L') c Q n env) : Gc P w0 F0 L c Q n env := fun w hw => k w (hw.conv hs hc)
theorem gc_pureR {c : Code} {p : Prop} (k : p → Gc P w0 F0 L c Q n env) : Gc P w0 F0 (pureR p :: L) c Q n env := fun w ⟨F, hF, hst⟩ => k (stars_pure hF).1 w ⟨F, (stars_pure hF).2, hst⟩
theorem gc_fact {c : Code} {p : Prop} (h : ∀ w, St w0 F0 L w → p) (k : p → Gc P w0 F0 L c Q n env) : Gc P w0 F0 L c Q n env := fun w hw => k (h w hw) w hw
end code
end
section
section ops
variable {P : Program} {w0 : World} {F0 : Nat → Prop} {L : List Res} {Q : Exit → Act → World → Prop} {n : Fm} {env : Env} {ops : Array Oper} {rest : List Oper}
variable {d : Option Tmp} {ty : TypeId} {pos : String} {af : Array Edge} {gd : Option (Nat × Bool)}
theorem r_move {x : Operand} {v : Value} (hx : ev n env x = v) : Runs P w0 F0 L n env ⟨d, .move x, ty, pos, af, gd⟩ v := fun w _ => by simp [execOp, hx]
theorem r_assign {x : Operand} {v : Value} (hx : ev n env x = v) : Runs P w0 F0 L n env ⟨d, .assign x, ty, pos, af, gd⟩ v := fun w _ => by simp [execOp, hx]
theorem r_pick {c x y : Operand} {b : Bool} {v : Value} (hc : ev n env c = .bool b) (hv : (bif b then ev n env x else ev n env y) = v) : Runs P w0 F0 L n env ⟨d, .pick c x y, ty, pos, af, gd⟩ v := fun w _ => by
  cases b <;> simp at hv <;> simp [execOp, hc, hv, asBool]
theorem r_nilCheck {x : Operand} {a : Addr} (hx : ev n env x = .pointer (some a)) : Runs P w0 F0 L n env ⟨d, .nilCheck x, ty, pos, af, gd⟩ (.pointer (some a)) := fun w _ => by simp [execOp, hx]
theorem r_not {x : Operand} {T : TypeId} {b : Bool} (hx : ev n env x = .bool b) : Runs P w0 F0 L n env ⟨d, .unOp .not T x, ty, pos, af, gd⟩ (.bool (!b)) := fun w _ => by simp [execOp, hx, Op.unary]
theorem r_extract {x : Operand} {i : Nat} {vs : Array Value} {v : Value} (hx : ev n env x = .tuple vs) (hv : vs[i]? = some v) : Runs P w0 F0 L n env ⟨d, .extract x i, ty, pos, af, gd⟩ v := fun w _ => by
  simp [execOp, hx, Instr.extract, hv]
theorem r_bin {op : BinOp} {T T' : TypeId} {x y : Operand} {k : IntKind} {i j : Int} {v : Value} (hop : (match op with | .shl | .shr | .eql | .neq => false | _ => true) = true)
    (hx : ev n env x = .int k i) (hy : ev n env y = .int k j) (hr : ∀ w : World, (match op with
      | .add | .sub | .mul => Op.intArith op k i j
      | .quo | .rem => Op.intDiv op k i j
      | .and | .or | .xor | .andNot => Op.intBits op k i j
      | _ => Op.intCmp op i j).run P w = .ok v w) : Runs P w0 F0 L n env ⟨d, .binOp op T x y T', ty, pos, af, gd⟩ v := fun w _ => by
  have := hr w
  cases op <;> simp at hop <;> simp [execOp, hx, hy, eqGuard, binOp] at * <;> rw [this] <;> rfl
theorem r_add {T T' : TypeId} {x y : Operand} {k : IntKind} {i j : Int} (hx : ev n env x = .int k i) (hy : ev n env y = .int k j) : Runs P w0 F0 L n env ⟨d, .binOp .add T x y T', ty, pos, af, gd⟩ (.int k (k.wrap (i + j))) := r_bin rfl hx hy fun _ => rfl
theorem r_sub {T T' : TypeId} {x y : Operand} {k : IntKind} {i j : Int} (hx : ev n env x = .int k i) (hy : ev n env y = .int k j) : Runs P w0 F0 L n env ⟨d, .binOp .sub T x y T', ty, pos, af, gd⟩ (.int k (k.wrap (i - j))) := r_bin rfl hx hy fun _ => rfl
theorem r_mul {T T' : TypeId} {x y : Operand} {k : IntKind} {i j : Int} (hx : ev n env x = .int k i) (hy : ev n env y = .int k j) : Runs P w0 F0 L n env ⟨d, .binOp .mul T x y T', ty, pos, af, gd⟩ (.int k (k.wrap (i * j))) := r_bin rfl hx hy fun _ => rfl
theorem r_arith {op : BinOp} {T T' : TypeId} {x y : Operand} {k : IntKind} {i j m : Int} (hx : ev n env x = .int k i) (hy : ev n env y = .int k j)
    (h : (match op with | .add => k.wrap (i + j) = m | .sub => k.wrap (i - j) = m | .mul => k.wrap (i * j) = m | _ => False)) : Runs P w0 F0 L n env ⟨d, .binOp op T x y T', ty, pos, af, gd⟩ (.int k m) := by
  cases op <;> simp at h <;> subst h
  · exact r_add hx hy
  · exact r_sub hx hy
  · exact r_mul hx hy
theorem r_quo {T T' : TypeId} {x y : Operand} {k : IntKind} {i j : Int} (hx : ev n env x = .int k i) (hy : ev n env y = .int k j) (hj : j ≠ 0) : Runs P w0 F0 L n env ⟨d, .binOp .quo T x y T', ty, pos, af, gd⟩ (.int k (k.wrap (i.tdiv j))) :=
  r_bin rfl hx hy fun _ => by simp [Op.intDiv, hj]
theorem r_rem {T T' : TypeId} {x y : Operand} {k : IntKind} {i j : Int} (hx : ev n env x = .int k i) (hy : ev n env y = .int k j) (hj : j ≠ 0) : Runs P w0 F0 L n env ⟨d, .binOp .rem T x y T', ty, pos, af, gd⟩ (.int k (i.tmod j)) :=
  r_bin rfl hx hy fun _ => by simp [Op.intDiv, hj]
def bitop (op : BinOp) (k : IntKind) (i j : Int) : Int := match op with
  | .and => k.wrap (BitVec.ofInt k.bits i &&& BitVec.ofInt k.bits j).toNat
  | .or => k.wrap (BitVec.ofInt k.bits i ||| BitVec.ofInt k.bits j).toNat
  | .xor => k.wrap (BitVec.ofInt k.bits i ^^^ BitVec.ofInt k.bits j).toNat
  | _ => k.wrap (BitVec.ofInt k.bits i &&& ~~~ BitVec.ofInt k.bits j).toNat
theorem r_bits {op : BinOp} {T T' : TypeId} {x y : Operand} {k : IntKind} {i j : Int} (hop : (match op with | .and | .or | .xor | .andNot => true | _ => false) = true)
    (hx : ev n env x = .int k i) (hy : ev n env y = .int k j) : Runs P w0 F0 L n env ⟨d, .binOp op T x y T', ty, pos, af, gd⟩ (.int k (bitop op k i j)) := by
  cases op <;> simp at hop <;> exact r_bin rfl hx hy fun _ => rfl
theorem r_lss {T T' : TypeId} {x y : Operand} {k : IntKind} {i j : Int} (hx : ev n env x = .int k i) (hy : ev n env y = .int k j) : Runs P w0 F0 L n env ⟨d, .binOp .lss T x y T', ty, pos, af, gd⟩ (.bool (decide (i < j))) := r_bin rfl hx hy fun _ => rfl
theorem r_leq {T T' : TypeId} {x y : Operand} {k : IntKind} {i j : Int} (hx : ev n env x = .int k i) (hy : ev n env y = .int k j) : Runs P w0 F0 L n env ⟨d, .binOp .leq T x y T', ty, pos, af, gd⟩ (.bool (decide (i ≤ j))) := r_bin rfl hx hy fun _ => rfl
theorem r_gtr {T T' : TypeId} {x y : Operand} {k : IntKind} {i j : Int} (hx : ev n env x = .int k i) (hy : ev n env y = .int k j) : Runs P w0 F0 L n env ⟨d, .binOp .gtr T x y T', ty, pos, af, gd⟩ (.bool (decide (j < i))) := r_bin rfl hx hy fun _ => rfl
theorem r_geq {T T' : TypeId} {x y : Operand} {k : IntKind} {i j : Int} (hx : ev n env x = .int k i) (hy : ev n env y = .int k j) : Runs P w0 F0 L n env ⟨d, .binOp .geq T x y T', ty, pos, af, gd⟩ (.bool (decide (j ≤ i))) := r_bin rfl hx hy fun _ => rfl
theorem r_eql_int {T T' : TypeId} {x y : Operand} {k : IntKind} {i j : Int} (hx : ev n env x = .int k i) (hy : ev n env y = .int k j) : Runs P w0 F0 L n env ⟨d, .binOp .eql T x y T', ty, pos, af, gd⟩ (.bool (decide (i = j))) := fun w _ => by
  simp [execOp, hx, hy, eqGuard, binOp, Op.intCmp]; rfl
theorem r_neq_int {T T' : TypeId} {x y : Operand} {k : IntKind} {i j : Int} (hx : ev n env x = .int k i) (hy : ev n env y = .int k j) : Runs P w0 F0 L n env ⟨d, .binOp .neq T x y T', ty, pos, af, gd⟩ (.bool (!decide (i = j))) := fun w _ => by
  simp [execOp, hx, hy, eqGuard, binOp, Op.intCmp, bne]; rfl
theorem r_shl {T T' : TypeId} {x y : Operand} {k k' : IntKind} {i j : Int} (hx : ev n env x = .int k i) (hy : ev n env y = .int k' j) (hj : 0 ≤ j) :
    Runs P w0 F0 L n env ⟨d, .binOp .shl T x y T', ty, pos, af, gd⟩ (.int k (k.wrap (i * 2 ^ (min j.toNat k.bits)))) := fun w _ => by
  simp [execOp, hx, hy, eqGuard, binOp, Op.shift, Int.not_lt.2 hj]
theorem r_shr {T T' : TypeId} {x y : Operand} {k k' : IntKind} {i j : Int} (hx : ev n env x = .int k i) (hy : ev n env y = .int k' j) (hj : 0 ≤ j) :
    Runs P w0 F0 L n env ⟨d, .binOp .shr T x y T', ty, pos, af, gd⟩ (.int k (i.fdiv (2 ^ (min j.toNat k.bits)))) := fun w _ => by
  simp [execOp, hx, hy, eqGuard, binOp, Op.shift, Int.not_lt.2 hj]
theorem r_conv_int {S T : TypeId} {x : Operand} {k k' : IntKind} {i : Int} {ds : TypeDesc} (hx : ev n env x = .int k i) (hs : P.underlying S = some ds) (ht : P.underlying T = some (.int k')) :
    Runs P w0 F0 L n env ⟨d, .convert S T x, ty, pos, af, gd⟩ (.int k' (k'.wrap i)) := fun w _ => by
  simp only [execOp, hx, convert, Sem.run_bind, run_underlying hs, run_underlying ht, Result.andThen_ok]
  cases ds <;> simp [Conv.intToInt]
theorem r_len_slice {x : Operand} {T e : TypeId} {a : Option Addr} {m c : Nat} (hx : ev n env x = .slice a m c) (ht : sliceT P T = some e) :
    Runs P w0 F0 L n env ⟨d, .call ⟨.builtin .len, #[x], #[T]⟩, ty, pos, af, gd⟩ (.int .i64 m) := fun w _ => by
  simp [execOp, resolve, invoke, builtin, Builtin.len_, hx, run_underlying (run_sliceT ht), goInt]
theorem r_len_string {x : Operand} {T : TypeId} {s : ByteArray} (hx : ev n env x = .string s) (ht : P.underlying T = some .string) :
    Runs P w0 F0 L n env ⟨d, .call ⟨.builtin .len, #[x], #[T]⟩, ty, pos, af, gd⟩ (.int .i64 s.size) := fun w _ => by
  simp [execOp, resolve, invoke, builtin, Builtin.len_, hx, run_underlying ht, goInt]
theorem r_fieldAddr {x : Operand} {s f : Nat} {g o k : Nat} (hx : ev n env x = .pointer (some ⟨g, o, none⟩)) (hf : foff P s f = some k) :
    Runs P w0 F0 L n env ⟨d, .fieldAddr s x f, ty, pos, af, gd⟩ (.pointer (some ⟨g, o + k, none⟩)) := fun w _ => by
  unfold foff at hf
  cases hu : P.underlying s with
  | none => simp [hu] at hf
  | some dsc =>
    cases dsc <;> simp [hu] at hf
    rename_i fs
    cases hfl : fs[f]? with
    | none => simp [hfl] at hf
    | some x' =>
      simp only [hfl, Option.bind_some] at hf
      cases hi : P.info? x'.type with
      | none => simp [hi] at hf
      | some i =>
        simp [hi] at hf
        obtain ⟨h0, hk⟩ := hf
        have hz : (sizeOf x'.type).run P w = .ok i.size w := run_sz (by simp [szT, hi])
        simp only [execOp, hx, Instr.fieldAt, Sem.run_bind, run_underlying hu, Result.andThen_ok, hfl, Instr.sureAddr, Sem.run_pure, fieldPlace, hz, h0, if_false, hk]
        simp [Addr.add_mid]
theorem r_indexAddr_slice {x y : Operand} {T e : TypeId} {g o m c s : Nat} {k : IntKind} {i : Int} (hx : ev n env x = .slice (some ⟨g, o, none⟩) m c) (hy : ev n env y = .int k i) (ht : sliceT P T = some e) (hs : szT P e = some s)
    (h0 : 0 ≤ i) (hm : i < m) : Runs P w0 F0 L n env ⟨d, .indexAddr T x y, ty, pos, af, gd⟩ (.pointer (some ⟨g, o + i.toNat * s, none⟩)) := fun w _ => by
  simp only [execOp, hx, hy, Instr.indexAt, asIntOf, Sem.run_bind, Sem.run_pure, Result.andThen_ok, run_underlying (run_sliceT ht)]
  simp [h0, hm, run_sz hs, Addr.add_mid]
theorem r_indexAddr_arr {x y : Operand} {T e : TypeId} {g o m s : Nat} {k : IntKind} {i : Int} (hx : ev n env x = .pointer (some ⟨g, o, none⟩)) (hy : ev n env y = .int k i) (ht : arrT P T = some (m, e)) (hs : szT P e = some s)
    (h0 : 0 ≤ i) (hm : i < m) : Runs P w0 F0 L n env ⟨d, .indexAddr T x y, ty, pos, af, gd⟩ (.pointer (some ⟨g, o + i.toNat * s, none⟩)) := fun w _ => by
  simp only [execOp, hx, hy, Instr.indexAt, asIntOf, Sem.run_bind, Sem.run_pure, Result.andThen_ok, run_underlying (run_arrT ht), Instr.sureAddr]
  simp [h0, hm, run_sz hs, Addr.add_mid]
theorem r_slice_slice {x : Operand} {T e : TypeId} {lo hi : Option Operand} {a : Option Addr} {m c s l h : Nat} (hx : ev n env x = .slice a m c) (ht : sliceT P T = some e) (hs : szT P e = some s)
    (hlo : (match lo with | none => l = 0 | some y => ∃ k, ev n env y = .int k l)) (hhi : (match hi with | none => h = m | some y => ∃ k, ev n env y = .int k h)) (h1 : l ≤ h) (h2 : h ≤ c) :
    Runs P w0 F0 L n env ⟨d, .slice T x lo hi none, ty, pos, af, gd⟩ (.slice (if c = l then a else a.map (·.add (l * s))) (h - l) (c - l)) := fun w _ => by
  have e1 : (Instr.sliceBounds true m c (lo.map (ev n env)) (hi.map (ev n env)) none).run P w = .ok (l, h, c) w := by
    unfold Instr.sliceBounds
    cases hi with
    | none =>
      simp only at hhi; subst hhi
      cases lo with
      | none => simp only at hlo; subst hlo; simp
      | some y =>
        obtain ⟨k, hk⟩ := hlo
        have : (0:Int) ≤ l ∧ (l:Int) ≤ h := ⟨by omega, by omega⟩
        simp [hk, Instr.sliceBound, asIntOf, h1, Nat.not_lt.2 h1]
    | some z =>
      obtain ⟨k', hk'⟩ := hhi
      have hc : (0:Int) ≤ h ∧ (h:Int) ≤ c := ⟨by omega, by omega⟩
      cases lo with
      | none => simp only at hlo; subst hlo; simp [hk', Instr.sliceBound, asIntOf, h2, Nat.not_lt.2 h2]
      | some y =>
        obtain ⟨k, hk⟩ := hlo
        have : (0:Int) ≤ l ∧ (l:Int) ≤ h := ⟨by omega, by omega⟩
        simp [hk, hk', Instr.sliceBound, asIntOf, h1, h2, Nat.not_lt.2 h1, Nat.not_lt.2 h2]
  simp [execOp, hx, Instr.sliceAt, run_underlying (run_sliceT ht), Instr.slice, e1, run_sz hs]
theorem r_slice_arr {x : Operand} {T e : TypeId} {lo hi : Option Operand} {g o m s l h : Nat} (hx : ev n env x = .pointer (some ⟨g, o, none⟩)) (ht : arrT P T = some (m, e)) (hs : szT P e = some s)
    (hlo : (match lo with | none => l = 0 | some y => ∃ k, ev n env y = .int k l)) (hhi : (match hi with | none => h = m | some y => ∃ k, ev n env y = .int k h)) (h1 : l ≤ h) (h2 : h ≤ m) (h3 : l < m) :
    Runs P w0 F0 L n env ⟨d, .slice T x lo hi none, ty, pos, af, gd⟩ (.slice (some ⟨g, o + l * s, none⟩) (h - l) (m - l)) := fun w _ => by
  have e1 : (Instr.sliceBounds false m m (lo.map (ev n env)) (hi.map (ev n env)) none).run P w = .ok (l, h, m) w := by
    unfold Instr.sliceBounds
    cases hi with
    | none =>
      simp only at hhi; subst hhi
      cases lo with
      | none => simp only at hlo; subst hlo; simp
      | some y =>
        obtain ⟨k, hk⟩ := hlo
        have : (0:Int) ≤ l ∧ (l:Int) ≤ h := ⟨by omega, by omega⟩
        simp [hk, Instr.sliceBound, asIntOf, h1, Nat.not_lt.2 h1]
    | some z =>
      obtain ⟨k', hk'⟩ := hhi
      have hc : (0:Int) ≤ h ∧ (h:Int) ≤ m := ⟨by omega, by omega⟩
      cases lo with
      | none => simp only at hlo; subst hlo; simp [hk', Instr.sliceBound, asIntOf, h2, Nat.not_lt.2 h2]
      | some y =>
        obtain ⟨k, hk⟩ := hlo
        have : (0:Int) ≤ l ∧ (l:Int) ≤ h := ⟨by omega, by omega⟩
        simp [hk, hk', Instr.sliceBound, asIntOf, h1, h2, Nat.not_lt.2 h1, Nat.not_lt.2 h2]
  have hml : ¬ m = l := by omega
  simp [execOp, hx, Instr.sliceAt, run_underlying (run_arrT ht), Instr.sureAddr, e1, run_sz hs, hml, Addr.add_mid]
theorem r_toArr {x : Operand} {T e : TypeId} {a : Option Addr} {m len c : Nat} (hx : ev n env x = .slice a len c) (ht : arrT P T = some (m, e)) (hm : m ≤ len) :
    Runs P w0 F0 L n env ⟨d, .sliceToArrayPointer T x, ty, pos, af, gd⟩ (.pointer a) := fun w _ => by
  simp [execOp, hx, Instr.arrayAt, run_underlying (run_arrT ht), Nat.not_lt.2 hm]
theorem r_load {x : Operand} {T : TypeId} {a : Addr} {v : Value} (hx : ev n env x = .pointer (some a)) (h : ∀ w, St w0 F0 L w → (loadVar T a).run P w = .ok v w) :
    Runs P w0 F0 L n env ⟨d, .load T x, ty, pos, af, gd⟩ v := fun w hs => by
  simp [execOp, hx, Instr.loadAt, Instr.sureAddr, h w hs]
theorem cell_blk {w : World} {F : Nat → Prop} {g T : Nat} {cs : List Value} (h : (blk g T cs).on w F) (i : Nat) : w.cell? ⟨g, i, none⟩ = cs[i]? := by
  obtain ⟨_, fz, hg, _⟩ := h
  simp [World.cell?, hg]
theorem St.cellOf {w : World} {g T : Nat} {cs : List Value} {L' : List Res} (hs : St w0 F0 L w) (hp : Pick L (blk g T cs) L') (i : Nat) : w.cell? ⟨g, i, none⟩ = cs[i]? := by
  obtain ⟨F, hF, _⟩ := hs
  obtain ⟨F1, h1, _⟩ := stars_pick hp hF
  exact cell_blk h1 i
theorem run_loadVar_one {w : World} {T : TypeId} {a : Addr} {v : Value} (hr : rowT P T = some false) (hc : w.cell? a = some v) : (loadVar T a).run P w = .ok v w := by
  simp [loadVar, run_rowT hr, run_load, hc]
theorem run_loadVar_agg {w : World} {T : TypeId} {g o m : Nat} {seg : List Value} (hr : rowT P T = some true) (hs : szT P T = some m) (hl : seg.length = m) (hc : w.rangeAt g o seg) :
    (loadVar T ⟨g, o, none⟩).run P w = .ok (.agg seg.toArray) w := by
  have hl' : (loadCells ⟨g, o, none⟩ m).run P w = .ok seg.toArray w := by
    rw [← hl]; exact run_loadCells_list (P := P) w ⟨g, o, none⟩ seg (fun j v hv => by rw [Addr.add_mid]; exact hc j v hv)
  simp [loadVar, run_rowT hr, run_sz hs, hl']
theorem r_ld1 {x : Operand} {T g o T' : Nat} {cs : List Value} {L' : List Res} {v : Value} (hx : ev n env x = .pointer (some ⟨g, o, none⟩)) (hr : rowT P T = some false) (hp : Pick L (blk g T' cs) L') (hv : cs[o]? = some v) :
    Runs P w0 F0 L n env ⟨d, .load T x, ty, pos, af, gd⟩ v := r_load hx fun w hs => run_loadVar_one hr ((hs.cellOf hp o).trans hv)
theorem r_ldN {x : Operand} {T g o T' m : Nat} {cs seg : List Value} {L' : List Res} (hx : ev n env x = .pointer (some ⟨g, o, none⟩)) (hr : rowT P T = some true) (hs : szT P T = some m) (hp : Pick L (blk g T' cs) L')
    (hg : (cs.drop o).take m = seg) (hl : seg.length = m) : Runs P w0 F0 L n env ⟨d, .load T x, ty, pos, af, gd⟩ (.agg seg.toArray) :=
  r_load hx fun w hst => run_loadVar_agg hr hs hl fun j v hj => by
    rw [hst.cellOf hp, ← hj, ← hg, List.getElem?_take, List.getElem?_drop]
    rw [if_pos]
    rw [← hl]
    exact (List.getElem?_eq_some_iff.1 hj).1
theorem r_ld1o {x : Operand} {T : Nat} {a : Addr} {v : Value} (hx : ev n env x = .pointer (some a)) (hr : rowT P T = some false) (hc : w0.cell? a = some v) (hn : ¬ F0 a.block) :
    Runs P w0 F0 L n env ⟨d, .load T x, ty, pos, af, gd⟩ v := r_load hx fun w ⟨F, hF, hst⟩ => run_loadVar_one hr (by
      rw [World.cell?_of_block (hst.old (World.block_lt_of_cell? w0 a hc) hn).1]; exact hc)
theorem St.new {w : World} {T : TypeId} {cs : List Value} (hs : St w0 F0 L w) : St w0 F0 (blk w.heap.size T cs :: L) { w with heap := w.heap.push (.cells cs.toArray T) } := by
  obtain ⟨F, hF, hst⟩ := hs
  refine ⟨fun k => k = w.heap.size ∨ F k, ⟨fun k => k = w.heap.size, F, ⟨fun k => Iff.rfl, (0, 0), by simp, fun i _ h => by simp at h⟩, ?_, fun k => Iff.rfl, ?_⟩, ?_⟩
  · exact stars_loc hF fun k hk => by
      have := stars_lt hF k hk
      simp [Array.getElem?_push, Nat.ne_of_lt this]
  · rintro k rfl hk
    exact absurd (stars_lt hF _ hk) (Nat.lt_irrefl _)
  · have hsz := hst.size
    refine ⟨hst.os, hst.tape, hst.output, by simp; omega, fun k hk hn => ?_, ?_⟩
    · rw [← hst.block k hk hn]
      show (w.heap.push _)[k]? = _
      rw [Array.getElem?_push, if_neg (by omega)]
    · rintro k (rfl | hk)
      · exact .inr hsz
      · exact hst.own k hk
theorem gl_alloc0 {t : Option Tmp} {T : TypeId} {cs : List Value} (hw : Wt ops n env ⟨t, .alloc T, ty, pos, af, gd⟩ true) (hz : zcT P T = some cs)
    (k : ∀ b, Gl P w0 F0 (blk b T cs :: L) ops Q rest n (pu t (.pointer (some ⟨b, 0, none⟩)) env)) : Gl P w0 F0 L ops Q (⟨t, .alloc T, ty, pos, af, gd⟩ :: rest) n env :=
  gl_effx hw (fun w hs => ⟨w.heap.size, { w with heap := w.heap.push (.cells cs.toArray T) }, by
    obtain ⟨z, hz', hc⟩ := zcT_some hz
    subst hc
    simp [execOp, Instr.alloc, run_zeroT hz', newVar, newRow, newObj, Sem.run], hs.new⟩) k
theorem gl_box0 {t : Option Tmp} {T : TypeId} {x : Operand} {v : Value} {cs : List Value} (hw : Wt ops n env ⟨t, .box T x, ty, pos, af, gd⟩ true) (hx : ev n env x = v) (hc : v.cells.toList = cs)
    (k : ∀ b, Gl P w0 F0 (blk b T cs :: L) ops Q rest n (pu t (.pointer (some ⟨b, 0, none⟩)) env)) : Gl P w0 F0 L ops Q (⟨t, .box T x, ty, pos, af, gd⟩ :: rest) n env :=
  gl_effx hw (fun w hs => ⟨w.heap.size, { w with heap := w.heap.push (.cells cs.toArray T) }, by
    subst hc
    simp [execOp, hx, Instr.box, newVar, newRow, newObj, Sem.run], hs.new⟩) k
theorem gl_alloc {t : Tmp} {T : TypeId} {cs : List Value} (hw : Wt ops n env ⟨some t, .alloc T, ty, pos, af, gd⟩ true) (hz : zcT P T = some cs)
    (k : ∀ b, Gl P w0 F0 (blk b T cs :: L) ops Q rest n ((t, .pointer (some ⟨b, 0, none⟩)) :: env)) : Gl P w0 F0 L ops Q (⟨some t, .alloc T, ty, pos, af, gd⟩ :: rest) n env := gl_alloc0 hw hz k
def updL (cs : List Value) (o : Nat) (new : List Value) : List Value := cs.take o ++ (new ++ cs.drop (o + new.length))
theorem updL_length {cs new : List Value} {o : Nat} (h : o + new.length ≤ cs.length) : (updL cs o new).length = cs.length := by
  simp [updL]; omega
theorem updL_cons {cs : List Value} {o : Nat} {v : Value} {r : List Value} (h : o < cs.length) : updL cs o (v :: r) = updL (cs.set o v) (o + 1) r := by
  simp only [updL, List.length_cons]
  rw [List.take_succ_eq_append_getElem (by simpa using h), List.append_assoc]
  congr 1
  · simp [List.take_set_of_le]
  · simp only [List.getElem_set_self, List.singleton_append, List.cons_append, List.cons.injEq, true_and]
    rw [show o + 1 + r.length = o + (r.length + 1) by omega, List.drop_set_of_lt (by omega)]
    rfl
theorem run_storeCells_blk {T : TypeId} {fz : Nat × Nat} (g o : Nat) : ∀ (vs : List Value) (i : Nat) (cs : List Value) (w : World), w.heap[g]? = some (.cells cs.toArray T fz) → okFz cs.length fz → o + i + vs.length ≤ cs.length → (∀ v ∈ vs, v.oneCell' = true) →
    (storeCells ⟨g, o, none⟩ vs i).run P w = .ok () { w with heap := w.heap.setIfInBounds g (.cells (updL cs (o + i) vs).toArray T fz) }
  | [], i, cs, w, hg, _, _, _ => by
    simp only [storeCells, Sem.run_pure]
    congr 1
    cases w
    simp only [World.mk.injEq, true_and, and_true]
    apply Array.ext_getElem?
    intro j
    simp only [updL, List.nil_append, List.length_nil, Nat.add_zero, List.take_append_drop]
    rw [Array.getElem?_setIfInBounds]
    split
    · rename_i h; subst h
      simp only at hg
      rw [hg]
      rw [if_pos (Array.getElem?_eq_some_iff.1 hg).1]
    · rfl
  | v :: r, i, cs, w, hg, hz, hl, h1 => by
    simp only [List.length_cons] at hl
    have hlt : g < w.heap.size := (Array.getElem?_eq_some_iff.1 hg).1
    have hc : w.cell? ⟨g, o + i, none⟩ = some cs[o + i] := by
      simp [World.cell?, hg]
    have hf : w.frozen? ⟨g, o + i, none⟩ = false := by
      have := hz (o + i) (by omega)
      simp only [World.frozen?, hg]
      simp only [not_and, Nat.not_lt] at this
      simp only [Bool.and_eq_false_iff, decide_eq_false_iff_not, Nat.not_le, Nat.not_lt]
      by_cases h : fz.1 ≤ o + i
      · exact .inr (this h)
      · exact .inl (by omega)
    have hset : w.setCell ⟨g, o + i, none⟩ v = { w with heap := w.heap.setIfInBounds g (.cells (cs.set (o + i) v).toArray T fz) } := by
      simp only [World.setCell]
      congr 1
      apply Array.ext_getElem?
      intro j
      rw [Array.getElem?_modify, Array.getElem?_setIfInBounds]
      by_cases h : g = j
      · subst h
        rw [if_pos rfl, if_pos rfl, if_pos hlt, hg]
        simp
      · rw [if_neg h, if_neg h]
    have ih := run_storeCells_blk (T := T) (fz := fz) g o r (i + 1) (cs.set (o + i) v) { w with heap := w.heap.setIfInBounds g (.cells (cs.set (o + i) v).toArray T fz) } (by simp [hlt]) (by simpa using hz) (by simp; omega) (fun u hu => h1 u (by simp [hu]))
    have hs : (store ((⟨g, o, none⟩ : Addr).add i) v).run P w = .ok () (w.setCell ⟨g, o + i, none⟩ v) := by
      rw [Addr.add_mid]
      simp only [run_store P w _ v _ (h1 v (by simp)), stored, hc, hf]
      rfl
    simp only [storeCells, Sem.run_bind]
    rw [hs, Result.andThen_ok, hset, ih, updL_cons (by omega)]
    simp [Nat.add_assoc]
theorem St.store {w : World} {g T o : Nat} {cs new : List Value} {L' : List Res} (hs : St w0 F0 L w) (hp : Pick L (blk g T cs) L') (hl : o + new.length ≤ cs.length) (h1 : ∀ v ∈ new, v.oneCell' = true) :
    ∃ w', (storeCells ⟨g, o, none⟩ new).run P w = .ok () w' ∧ St w0 F0 (blk g T (updL cs o new) :: L') w' := by
  obtain ⟨F, hF, hst⟩ := hs
  obtain ⟨F1, F2, ⟨hF1, fz, hg, hz⟩, h2, hE, hd⟩ := hp.stars hF
  refine ⟨_, run_storeCells_blk (P := P) g o new 0 cs w hg hz (by omega) h1, F, ⟨F1, F2, ⟨hF1, fz, ?_, ?_⟩, ?_, hE, hd⟩, ?_⟩
  · have hlt : g < w.heap.size := (Array.getElem?_eq_some_iff.1 hg).1
    simp [hlt]
  · simpa only [Nat.add_zero, updL_length hl] using hz
  · refine stars_loc h2 fun k hk => ?_
    have : ¬ g = k := fun e => hd k ((hF1 k).2 e.symm) hk
    simp [Array.getElem?_setIfInBounds, this]
  · refine ⟨hst.os, hst.tape, hst.output, by simpa using hst.size, fun k hk hn => ?_, hst.own⟩
    rw [← hst.block k hk hn]
    have : ¬ g = k := fun e => (hst.old hk hn).2 ((hE k).2 (.inl ((hF1 k).2 e.symm)))
    simp [Array.getElem?_setIfInBounds, this]
theorem gl_store0 {t : Option Tmp} {T : TypeId} {x y : Operand} {g o T' m : Nat} {cs new cs' : List Value} {L' : List Res} {v : Value} (hw : Wt ops n env ⟨t, .store T x y, ty, pos, af, gd⟩ true)
    (hx : ev n env x = .pointer (some ⟨g, o, none⟩)) (hy : ev n env y = v) (hc : v.cells.toList = new) (hs : szT P T = some m) (hm : new.length = m) (hp : Pick L (blk g T' cs) L') (hl : o + m ≤ cs.length) (h1 : ∀ u ∈ new, u.oneCell' = true)
    (hu : updL cs o new = cs') (k : Gl P w0 F0 (blk g T' cs' :: L') ops Q rest n (pu t undef env)) : Gl P w0 F0 L ops Q (⟨t, .store T x y, ty, pos, af, gd⟩ :: rest) n env :=
  gl_skip hw (fun w hst => by
    obtain ⟨w', hr, hs'⟩ := hst.store (P := P) (o := o) (new := new) hp (by omega) h1
    refine ⟨w', ?_, by rw [← hu]; exact hs'⟩
    have hv : v.cells.size = m := by rw [← hm, ← hc]; simp
    simp [execOp, hx, hy, Instr.storeAt, Instr.sureAddr, storeVar, hv, run_sz hs, hc, hr]) k
theorem gl_storeN {T : TypeId} {x y : Operand} {g o T' m : Nat} {cs new cs' : List Value} {L' : List Res} (hw : Wt ops n env ⟨none, .store T x y, ty, pos, af, gd⟩ true)
    (hx : ev n env x = .pointer (some ⟨g, o, none⟩)) (hy : ev n env y = .agg new.toArray) (hs : szT P T = some m) (hm : new.length = m) (hp : Pick L (blk g T' cs) L') (hl : o + m ≤ cs.length) (h1 : ∀ u ∈ new, u.oneCell' = true)
    (hu : updL cs o new = cs') (k : Gl P w0 F0 (blk g T' cs' :: L') ops Q rest n env) : Gl P w0 F0 L ops Q (⟨none, .store T x y, ty, pos, af, gd⟩ :: rest) n env := gl_store0 hw hx hy (by simp [Value.cells]) hs hm hp hl h1 hu k
theorem gl_store1 {T : TypeId} {x y : Operand} {g o T' : Nat} {cs cs' : List Value} {L' : List Res} {v : Value} (hw : Wt ops n env ⟨none, .store T x y, ty, pos, af, gd⟩ true)
    (hx : ev n env x = .pointer (some ⟨g, o, none⟩)) (hy : ev n env y = v) (h1 : v.oneCell' = true) (hs : szT P T = some 1) (hp : Pick L (blk g T' cs) L') (hl : o + 1 ≤ cs.length)
    (hu : updL cs o [v] = cs') (k : Gl P w0 F0 (blk g T' cs' :: L') ops Q rest n env) : Gl P w0 F0 L ops Q (⟨none, .store T x y, ty, pos, af, gd⟩ :: rest) n env :=
  gl_store0 hw hx hy (by cases v <;> first | rfl | (simp [Value.oneCell'] at h1)) hs rfl hp hl (by simpa using h1) hu k
theorem gl_boxN {t : Tmp} {T : TypeId} {x : Operand} {cs : List Value} (hw : Wt ops n env ⟨some t, .box T x, ty, pos, af, gd⟩ true) (hx : ev n env x = .agg cs.toArray)
    (k : ∀ b, Gl P w0 F0 (blk b T cs :: L) ops Q rest n ((t, .pointer (some ⟨b, 0, none⟩)) :: env)) : Gl P w0 F0 L ops Q (⟨some t, .box T x, ty, pos, af, gd⟩ :: rest) n env := gl_box0 hw hx (by simp [Value.cells]) k
theorem gl_box1 {t : Tmp} {T : TypeId} {x : Operand} {v : Value} (hw : Wt ops n env ⟨some t, .box T x, ty, pos, af, gd⟩ true) (hx : ev n env x = v) (h1 : v.oneCell' = true)
    (k : ∀ b, Gl P w0 F0 (blk b T [v] :: L) ops Q rest n ((t, .pointer (some ⟨b, 0, none⟩)) :: env)) : Gl P w0 F0 L ops Q (⟨some t, .box T x, ty, pos, af, gd⟩ :: rest) n env :=
  gl_box0 hw hx (by cases v <;> first | rfl | (simp [Value.oneCell'] at h1)) k
theorem e_call {f : FuncId} {xs : List Operand} {ts : Array TypeId} {vs : List Value} (hf : okCall P f = true) (hv : xs.map (ev n env) = vs) (w : World) :
    (execOp (ev n env) ⟨d, .call ⟨.value (.func f), xs.toArray, ts⟩, ty, pos, af, gd⟩).run P w = .ok (.enter f vs.toArray) w := by
  unfold okCall at hf
  cases hp : P.funcs[f]? with
  | none => simp [hp] at hf
  | some fn =>
    cases hb : fn.body with
    | none => simp [hp, hb] at hf
    | some c =>
      have hn : ¬ fn.name = "runtime.NumGoroutine" := by simpa [hp, hb] using hf
      simp [execOp, resolve, ev, Deferred.ofValue, invoke, callFunc, program, Sem.run, hp, hb, hn, hv]
end ops
end
section
abbrev B8 (u : UInt8) : Value := .int .u8 (u.toNat : Int)
theorem one_B8 (l : List UInt8) : ∀ v ∈ l.map B8, v.oneCell' = true := fun v hv => by
  obtain ⟨u, _, rfl⟩ := List.mem_map.1 hv; rfl
def RdRow (w : World) (A : Nat → Prop) (size : Nat) (a : Option Addr) (n : Nat) (xs : List Value) : Prop :=
  xs.length = n * size ∧ n ≤ maxLen ∧ (0 < n → ∃ g o, a = some ⟨g, o, none⟩ ∧ A g ∧ g < w.heap.size ∧ w.rangeAt g o xs)
theorem RdRow.mv {w w' : World} {A A' : Nat → Prop} {size n : Nat} {a : Option Addr} {xs : List Value} (h : RdRow w A size a n xs)
    (hk : ∀ k, k < w.heap.size → A k → w'.heap[k]? = w.heap[k]? ∧ A' k) : RdRow w' A' size a n xs := by
  refine ⟨h.1, h.2.1, fun hn => ?_⟩
  obtain ⟨g, o, ha, hA, hl, hr⟩ := h.2.2 hn
  obtain ⟨e, hA'⟩ := hk g hl hA
  refine ⟨g, o, ha, hA', ?_, fun j v hj => ?_⟩
  · rw [Array.getElem?_eq_getElem hl] at e
    exact (Array.getElem?_eq_some_iff.1 e).1
  · rw [World.cell?_of_block (w := w) (a := ⟨g, o + j, none⟩) e]; exact hr j v hj
theorem RdRow.nil {w : World} {A : Nat → Prop} {size : Nat} {a : Option Addr} : RdRow w A size a 0 [] := ⟨by simp, by simp [maxLen], fun h => absurd h (by omega)⟩
theorem RdRow.first {P : Program} {w : World} {A : Nat → Prop} {size n c : Nat} {a : Option Addr} {xs : List Value} (h : RdRow w A size a n xs) :
    (Builtin.firstCells size n (.slice a n c)).run P w = .ok xs.toArray w := by
  cases a with
  | none =>
    have hn : n = 0 := by
      rcases Nat.eq_zero_or_pos n with h0 | h0
      · exact h0
      · obtain ⟨_, _, ha, _⟩ := h.2.2 h0; cases ha
    subst hn
    have : xs = [] := List.eq_nil_of_length_eq_zero (by simpa using h.1)
    subst this
    simp [Builtin.firstCells]
  | some ad =>
    refine run_firstCells_some w size n ad n c xs h.1 fun j v hj => ?_
    rcases Nat.eq_zero_or_pos n with h0 | h0
    · subst h0
      have : xs = [] := List.eq_nil_of_length_eq_zero (by simpa using h.1)
      subst this; simp at hj
    · obtain ⟨g, o, ha, _, _, hr⟩ := h.2.2 h0
      injection ha with ha; subst ha
      rw [Addr.add_mid]; exact hr j v hj
theorem RdRow.elem {w : World} {A : Nat → Prop} {size n : Nat} {a : Option Addr} {xs : List Value} (h : RdRow w A size a n xs) {i : Nat} (hi : i < n) :
    ∃ g o, a = some ⟨g, o, none⟩ ∧ A g ∧ g < w.heap.size ∧ w.rangeAt g (o + i * size) ((xs.drop (i * size)).take size) := by
  obtain ⟨g, o, ha, hA, hl, hr⟩ := h.2.2 (by omega)
  refine ⟨g, o, ha, hA, hl, fun j v hj => ?_⟩
  rw [List.getElem?_take] at hj
  split at hj
  · rw [List.getElem?_drop] at hj
    rw [Nat.add_assoc]; exact hr _ v hj
  · cases hj
theorem RdRow.cut {w : World} {A : Nat → Prop} {size n c l h : Nat} {a : Option Addr} {xs : List Value} (hr : RdRow w A size a n xs) (h1 : l ≤ h) (h2 : h ≤ n) (h3 : n ≤ c) :
    RdRow w A size (if c = l then a else a.map (·.add (l * size))) (h - l) ((xs.drop (l * size)).take ((h - l) * size)) := by
  have hle : h * size ≤ xs.length := by rw [hr.1]; exact Nat.mul_le_mul_right _ h2
  have hle' : l * size ≤ h * size := Nat.mul_le_mul_right _ h1
  have hsub : (h - l) * size = h * size - l * size := Nat.sub_mul _ _ _
  refine ⟨by rw [List.length_take, List.length_drop]; omega, by have := hr.2.1; omega, fun hn => ?_⟩
  obtain ⟨g, o, rfl, hA, hl, hx⟩ := hr.2.2 (by omega)
  rw [if_neg (by omega)]
  refine ⟨g, o + l * size, by simp [Addr.add_mid], hA, hl, fun j v hj => ?_⟩
  rw [List.getElem?_take] at hj
  split at hj
  · rw [List.getElem?_drop] at hj
    rw [Nat.add_assoc]; exact hx _ v hj
  · cases hj
def rowR (e size : Nat) (a : Option Addr) (n c : Nat) (xs : List Value) : Res where
  on w F := xs.length = n * size ∧ n ≤ c ∧ c ≤ maxLen ∧ ((a = none ∧ c = 0 ∧ ∀ k, ¬ F k) ∨
    ∃ g o cs fz, a = some ⟨g, o, none⟩ ∧ (∀ k, F k ↔ k = g) ∧ w.heap[g]? = some (.cells cs e fz) ∧ okFz cs.size fz ∧ o + c * size ≤ cs.size ∧ (cs.toList.drop o).take (n * size) = xs)
  loc := fun ⟨h1, h2, h3, h⟩ hk => ⟨h1, h2, h3, h.imp id fun ⟨g, o, cs, fz, ha, hF, hg, r⟩ => ⟨g, o, cs, fz, ha, hF, (hk g ((hF g).2 rfl)).trans hg, r⟩⟩
  ok := fun ⟨_, _, _, h⟩ k hk => by
    rcases h with ⟨_, _, h⟩ | ⟨g, o, cs, fz, _, hF, hg, hz, _⟩
    · exact absurd hk (h k)
    · rw [(hF k).1 hk]; exact ⟨_, hg, hz⟩
theorem rowR.rd {e size n c : Nat} {a : Option Addr} {xs : List Value} {w : World} {F : Nat → Prop} (h : (rowR e size a n c xs).on w F) : RdRow w F size a n xs := by
  obtain ⟨h1, h2, h3, h⟩ := h
  refine ⟨h1, Nat.le_trans h2 h3, fun hn => ?_⟩
  rcases h with ⟨_, h, _⟩ | ⟨g, o, cs, fz, ha, hF, hg, _, hl, hx⟩
  · omega
  · refine ⟨g, o, ha, (hF g).2 rfl, (Array.getElem?_eq_some_iff.1 hg).1, fun j v hj => ?_⟩
    rw [← hx, List.getElem?_take] at hj
    split at hj
    · simp [World.cell?, hg]
      rw [List.getElem?_drop] at hj
      simpa using hj
    · cases hj
theorem rowR.nil {e size : Nat} {w : World} : (rowR e size none 0 0 []).on w (fun _ => False) := ⟨by simp, Nat.le_refl _, by simp [maxLen], .inl ⟨rfl, rfl, fun _ h => h⟩⟩
theorem stars_row_nil {e size : Nat} {L : List Res} {w : World} {F : Nat → Prop} (h : stars L w F) : stars (rowR e size none 0 0 [] :: L) w F :=
  ⟨_, F, rowR.nil, h, fun k => by simp, fun _ h => h.elim⟩
theorem rowR.of_blk {e size g o n c : Nat} {cs xs : List Value} {w : World} {F : Nat → Prop} (h : (blk g e cs).on w F) (hx : (cs.drop o).take (n * size) = xs) (hl : o + c * size ≤ cs.length) (hn : n ≤ c) (hc : c ≤ maxLen) :
    (rowR e size (some ⟨g, o, none⟩) n c xs).on w F := by
  obtain ⟨hF, fz, hg, hz⟩ := h
  have : n * size ≤ c * size := Nat.mul_le_mul_right _ hn
  exact ⟨by rw [← hx, List.length_take, List.length_drop]; omega, hn, hc, .inr ⟨g, o, cs.toArray, fz, rfl, hF, hg, by simpa using hz, by simpa using hl, by simpa using hx⟩⟩
theorem rowR.cut {e size n c l h : Nat} {a : Option Addr} {xs : List Value} {w : World} {F : Nat → Prop} (hr : (rowR e size a n c xs).on w F) (h1 : l ≤ h) (h2 : h ≤ n) :
    (rowR e size (if c = l then a else a.map (·.add (l * size))) (h - l) (c - l) ((xs.drop (l * size)).take ((h - l) * size))).on w F := by
  obtain ⟨e1, e2, e3, hh⟩ := hr
  have hle : h * size ≤ xs.length := by rw [e1]; exact Nat.mul_le_mul_right _ h2
  have hle' : l * size ≤ h * size := Nat.mul_le_mul_right _ h1
  have hsub : (h - l) * size = h * size - l * size := Nat.sub_mul _ _ _
  refine ⟨by rw [List.length_take, List.length_drop]; omega, by omega, by omega, ?_⟩
  rcases hh with ⟨rfl, rfl, hF⟩ | ⟨g, o, cs, fz, rfl, hF, hg, hz, hl, hx⟩
  · have : l = 0 := by omega
    subst this
    exact .inl ⟨by simp, rfl, hF⟩
  · right
    by_cases hc : c = l
    · rw [if_pos hc]
      have : h = l := by omega
      subst this
      subst hc
      exact ⟨g, o, cs, fz, rfl, hF, hg, hz, by simp; omega, by simp⟩
    · rw [if_neg hc]
      have hcl : (c - l) * size = c * size - l * size := Nat.sub_mul _ _ _
      have hcl' : l * size ≤ c * size := Nat.mul_le_mul_right _ (by omega)
      refine ⟨g, o + l * size, cs, fz, by simp [Addr.add_mid], hF, hg, hz, by omega, ?_⟩
      rw [← hx, List.drop_take, List.drop_drop, List.take_take]
      congr 1
      have : n * size = xs.length := e1.symm
      omega
section rows
variable {P : Program} {w0 : World} {F0 : Nat → Prop} {L : List Res} {Q : Exit → Act → World → Prop} {n : Fm} {env : Env} {ops : Array Oper} {rest : List Oper}
variable {d : Option Tmp} {ty : TypeId} {pos : String} {af : Array Edge} {gd : Option (Nat × Bool)}
theorem St.row {w : World} {e size a m c xs} {L' : List Res} (hs : St w0 F0 L w) (hp : Pick L (rowR e size a m c xs) L') : RdRow w (fun _ => True) size a m xs := by
  obtain ⟨F, hF, _⟩ := hs
  obtain ⟨F1, h1, _⟩ := stars_pick hp hF
  exact (rowR.rd h1).mv fun k _ _ => ⟨rfl, trivial⟩
theorem St.rdOld {w : World} {size a m xs} (hs : St w0 F0 L w) (h : RdRow w0 (fun k => ¬ F0 k) size a m xs) : RdRow w (fun _ => True) size a m xs := by
  obtain ⟨F, _, hst⟩ := hs
  exact h.mv fun k hk hn => ⟨(hst.old hk hn).1, trivial⟩
theorem St.newW {w w' : World} {T : TypeId} {cs : Array Value} {fz : Nat × Nat} (hs : St w0 F0 L w) (hh : w'.heap = w.heap.push (.cells cs T fz)) (ho : w'.os = w.os) (ht : w'.tape = w.tape) (hu : w'.output = w.output) :
    ∃ F, stars L w' F ∧ Stp w0 F0 w' F ∧ (∀ k, F k → k < w.heap.size) ∧ Stp w0 F0 w' (fun k => k = w.heap.size ∨ F k) := by
  obtain ⟨F, hF, hst⟩ := hs
  have hold : ∀ k, k < w.heap.size → w'.heap[k]? = w.heap[k]? := fun k hk => by rw [hh, Array.getElem?_push, if_neg (by omega)]
  have hsz : w.heap.size ≤ w'.heap.size := by rw [hh]; simp
  have hst' : Stp w0 F0 w' F := ⟨ho.trans hst.os, ht.trans hst.tape, hu.trans hst.output, Nat.le_trans hst.size hsz, fun k hk hn => (hold k (Nat.lt_of_lt_of_le hk hst.size)).trans (hst.block k hk hn), hst.own⟩
  refine ⟨F, stars_loc hF fun k hk => hold k (stars_lt hF k hk), hst', stars_lt hF, { hst' with own := ?_ }⟩
  rintro k (rfl | hk)
  · exact .inr hst.size
  · exact hst.own k hk
theorem St.newRow {w w' : World} {e size m c : Nat} {cs : Array Value} {fz : Nat × Nat} {xs : List Value} (hs : St w0 F0 L w) (hh : w'.heap = w.heap.push (.cells cs e fz)) (ho : w'.os = w.os) (ht : w'.tape = w.tape) (hu : w'.output = w.output)
    (hz : okFz cs.size fz) (hx : cs.toList.take (m * size) = xs) (hm : m ≤ c) (hc : c ≤ maxLen) (hl : c * size ≤ cs.size) : St w0 F0 (rowR e size (some ⟨w.heap.size, 0, none⟩) m c xs :: L) w' := by
  obtain ⟨F, hF, _, hlt, hst⟩ := hs.newW hh ho ht hu
  have hle : m * size ≤ c * size := Nat.mul_le_mul_right _ hm
  refine ⟨_, ⟨fun k => k = w.heap.size, F, ⟨by rw [← hx, List.length_take]; simp; omega, hm, hc, .inr ⟨w.heap.size, 0, cs, fz, rfl, fun _ => Iff.rfl, by rw [hh]; simp, hz, by omega, by simpa using hx⟩⟩, hF, fun k => Iff.rfl, ?_⟩, hst⟩
  rintro k rfl hk
  exact absurd (hlt _ hk) (Nat.lt_irrefl _)
theorem St.append {w : World} {e size bytes m c k c2 : Nat} {a a2 : Option Addr} {xs news : List Value} {L' : List Res} {t ty : TypeId} {i : TypeInfo} {z : Value} {A : Nat → Prop}
    (hs : St w0 F0 L w) (hp : Pick L (rowR e size a m c xs) L') (ht : P.underlying t = some (.slice e)) (hi : P.info? e = some i) (hz : i.zero = some z) (hsize : i.size = size) (hby : i.bytes = bytes) (hzs : z.cells.size = size) (hsz : 0 < size)
    (hr : RdRow w A size a2 k news) (h1 : ∀ u ∈ news, u.oneCell' = true) (h63 : m + k ≤ maxLen) (hb : (m + k) * bytes ≤ 140737488355328) :
    ∃ a' c' w', (Builtin.append_ #[t, t] ty #[.slice a m c, .slice a2 k c2]).run P w = .ok (.slice a' (m + k) c') w' ∧ St w0 F0 (rowR e size a' (m + k) c' (xs ++ news) :: L') w' := by
  subst hsize
  subst hby
  have hsmall : m + k ≤ 9223372036854775807 := by simp only [maxLen] at h63; omega
  obtain ⟨F, hF, hst⟩ := hs
  obtain ⟨F1, F2, hrow, h2, hE, hd⟩ := hp.stars hF
  have hown := hrow
  obtain ⟨hxl, hmc, hcm, hcase⟩ := hrow
  have hs' : St w0 F0 L' w := ⟨F2, h2, hst.weak fun k hk => (hE k).2 (.inr hk)⟩
  have hlen : (xs ++ news).length = (m + k) * i.size := by rw [List.length_append, hxl, hr.1, Nat.add_mul]
  by_cases hroom : m + k ≤ c
  · rcases hcase with ⟨rfl, rfl, hF1⟩ | ⟨g, o, cs, fz, rfl, hF1, hg, hfz, hl, hx⟩
    · have hm0 : m = 0 := by omega
      have hk0 : k = 0 := by omega
      subst hm0; subst hk0
      have hx0 : xs = [] := List.eq_nil_of_length_eq_zero (by simpa using hxl)
      have hn0 : news = [] := List.eq_nil_of_length_eq_zero (by simpa using hr.1)
      subst hx0; subst hn0
      refine ⟨none, 0, w, ?_, ?_⟩
      · have hf := hr.first (P := P) (c := c2)
        simp [Builtin.append_, run_underlying ht, sizeOf, typeInfo, hi, Builtin.lenOf, hf]
      · exact ⟨F2, stars_row_nil h2, hst.weak fun k hk => (hE k).2 (.inr hk)⟩
    · have hfit : m * i.size + news.length ≤ c * i.size := by rw [hr.1, ← Nat.add_mul]; exact Nat.mul_le_mul_right _ hroom
      have hst' := run_storeCells_blk (P := P) (T := e) (fz := fz) g (o + m * i.size) news 0 cs.toList w (by simpa using hg) (by simpa using hfz) (by simp; omega) h1
      refine ⟨some ⟨g, o, none⟩, c, { w with heap := w.heap.setIfInBounds g (.cells (updL cs.toList (o + m * i.size) news).toArray e fz) }, ?_, F, ⟨F1, F2, ⟨hlen, hroom, hcm, .inr ⟨g, o, (updL cs.toList (o + m * i.size) news).toArray, fz, rfl, hF1, ?_, ?_, ?_, ?_⟩⟩, ?_, hE, hd⟩, ?_⟩
      · have hf := hr.first (P := P) (c := c2)
        simp only [Nat.add_zero] at hst'
        simp [Builtin.append_, run_underlying ht, sizeOf, typeInfo, hi, Builtin.lenOf, hroom, hf, Addr.add_mid, hst']
      · have hlt : g < w.heap.size := (Array.getElem?_eq_some_iff.1 hg).1
        simp [hlt]
      · rw [List.size_toArray, updL_length (by simp; omega)]; simpa using hfz
      · rw [List.size_toArray, updL_length (by simp; omega)]; simpa using hl
      · rw [← hlen]
        simp only [updL]
        have e1 : (cs.toList.take (o + m * i.size)).drop o = xs := by
          rw [List.drop_take, ← hx]; congr 1; omega
        rw [List.drop_append_of_le_length (by simp; omega), e1, ← List.append_assoc]
        exact List.take_left
      · refine stars_loc h2 fun j hj => ?_
        have : ¬ g = j := fun e => hd j ((hF1 j).2 e.symm) hj
        simp [Array.getElem?_setIfInBounds, this]
      · refine ⟨hst.os, hst.tape, hst.output, by simpa using hst.size, fun j hj hn => ?_, hst.own⟩
        rw [← hst.block j hj hn]
        have : ¬ g = j := fun e => (hst.old hj hn).2 ((hE j).2 (.inl ((hF1 j).2 e.symm)))
        simp [Array.getElem?_setIfInBounds, this]
  · have hge := grownCap_ge w (m + k) c e
    have hcl : grownCap w (m + k) c e ≤ maxLen := grownCap_le_maxLen w (m + k) c e h63
    have hfo := (rowR.rd hown).first (P := P) (c := c)
    have hfn := hr.first (P := P) (c := c2)
    have hrun : (Builtin.append_ #[t, t] ty #[.slice a m c, .slice a2 k c2]).run P w = .ok (.slice (some ⟨w.heap.size, 0, none⟩) (m + k) (grownCap w (m + k) c e))
        (w.drew.alloc (.cells (xs.toArray ++ news.toArray ++ Builtin.zeroCells z.cells (grownCap w (m + k) c e - (m + k))) e)) := by
      have h48' : ¬ (281474976710656 < Builtin.nextslicecap (m + k) c * i.bytes) := by
        have := growslice_fits (need := m + k) (old := c) (by omega) hb; omega
      have h63' : ¬ (9223372036854775807 < ((m : Int) + (k : Int))) := by omega
      have hfo' : (Builtin.firstCells i.size m (.slice a m c)).run P w.drew = .ok xs.toArray w.drew := ((rowR.rd hown).mv (w' := w.drew) (A' := fun _ => True) fun _ _ _ => ⟨rfl, trivial⟩).first
      have hfn' : (Builtin.firstCells i.size k (.slice a2 k c2)).run P w.drew = .ok news.toArray w.drew := (hr.mv (w' := w.drew) (A' := fun _ => True) fun _ _ _ => ⟨rfl, trivial⟩).first
      simp [Builtin.append_, run_underlying ht, sizeOf, typeInfo, zeroValue, hi, hz, Builtin.lenOf, hroom, h63', h48', Question.forced, hfo', hfn', Go.newRow, grownCap]
      congr 2
      apply Array.ext'
      simp
    refine ⟨_, _, _, hrun, hs'.newRow (w' := w.drew.alloc _) (fz := (0, 0)) rfl rfl rfl rfl (fun j _ h => by simp at h) ?_ hge hcl ?_⟩
    · simp only [Array.toList_append, List.append_assoc]
      rw [← List.append_assoc, ← hlen]
      exact List.take_left
    · simp only [Array.size_append, List.size_toArray, size_zeroCells, hzs, hxl, hr.1, ← Nat.add_mul]
      rw [show m + k + (grownCap w (m + k) c e - (m + k)) = grownCap w (m + k) c e by omega]
      exact Nat.le_refl _
theorem gl_append0 {x y : Operand} {t e size bytes m c k c2 : Nat} {a a2 : Option Addr} {xs news : List Value} {L' : List Res} {o : Option Tmp}
    (hw : Wt ops n env ⟨o, .call ⟨.builtin .append, #[x, y], #[t, t]⟩, ty, pos, af, gd⟩ true) (hx : ev n env x = .slice a m c) (hy : ev n env y = .slice a2 k c2) (hp : Pick L (rowR e size a m c xs) L')
    (ht : ElemT P t e size bytes) (hr : ∀ w, St w0 F0 L w → RdRow w (fun _ => True) size a2 k news) (h1 : ∀ u ∈ news, u.oneCell' = true) (h63 : m + k ≤ maxLen) (hb : (m + k) * bytes ≤ 140737488355328)
    (K : ∀ a' c', Gl P w0 F0 (rowR e size a' (m + k) c' (xs ++ news) :: L') ops Q rest n (pu o (.slice a' (m + k) c') env)) :
    Gl P w0 F0 L ops Q (⟨o, .call ⟨.builtin .append, #[x, y], #[t, t]⟩, ty, pos, af, gd⟩ :: rest) n env := by
  obtain ⟨hsl, ⟨i, z, hi, hz, hsz, hby, hzs⟩, hpos⟩ := ht
  refine gl_effx (α := Option Addr × Nat) (L' := fun p => rowR e size p.1 (m + k) p.2 (xs ++ news) :: L') (v := fun p => .slice p.1 (m + k) p.2) hw (fun w hs => ?_) (fun p => K p.1 p.2)
  obtain ⟨a', c', w', hrun, hs'⟩ := hs.append (P := P) (ty := ty) (c2 := c2) hp hsl hi hz hsz hby hzs hpos (hr w hs) h1 h63 hb
  refine ⟨(a', c'), w', ?_, hs'⟩
  simp [execOp, resolve, invoke, builtin, hx, hy, hrun]
theorem gl_append {x y : Operand} {t e size bytes m c k c2 : Nat} {a a2 : Option Addr} {xs news : List Value} {L' : List Res} {o : Tmp}
    (hw : Wt ops n env ⟨some o, .call ⟨.builtin .append, #[x, y], #[t, t]⟩, ty, pos, af, gd⟩ true) (hx : ev n env x = .slice a m c) (hy : ev n env y = .slice a2 k c2) (hp : Pick L (rowR e size a m c xs) L')
    (ht : ElemT P t e size bytes) (hr : ∀ w, St w0 F0 L w → RdRow w (fun _ => True) size a2 k news) (h1 : ∀ u ∈ news, u.oneCell' = true) (h63 : m + k ≤ maxLen) (hb : (m + k) * bytes ≤ 140737488355328)
    (K : ∀ a' c', Gl P w0 F0 (rowR e size a' (m + k) c' (xs ++ news) :: L') ops Q rest n ((o, .slice a' (m + k) c') :: env)) :
    Gl P w0 F0 L ops Q (⟨some o, .call ⟨.builtin .append, #[x, y], #[t, t]⟩, ty, pos, af, gd⟩ :: rest) n env := gl_append0 hw hx hy hp ht hr h1 h63 hb K
end rows
end
section
structure Dig where
  l : List UInt8
  h : l.length = 16
theorem Dig.ext' {a b : Dig} (h : a.l = b.l) : a = b := by cases a; cases b; cases h; rfl
instance : DecidableEq Dig := fun a b => if h : a.l = b.l then isTrue (Dig.ext' h) else isFalse (fun e => h (by rw [e]))
def dc (d : Dig) : List Value := d.l.map B8
theorem dc_length (d : Dig) : (dc d).length = 16 := by simp [dc, d.h]
theorem dc_one (d : Dig) : ∀ v ∈ dc d, v.oneCell' = true := one_B8 _
def dig0 : Dig := ⟨List.replicate 16 0, rfl⟩
theorem zD_length : zD.length = 16 := rfl
theorem drop_dc {d : Dig} {k : Nat} {r : List Value} (h : 16 ≤ k) : List.drop k (dc d ++ r) = List.drop (k - 16) r := by
  rw [List.drop_append, List.drop_eq_nil_of_le (by rw [dc_length]; exact h), dc_length]; rfl
theorem drop_dc' {d : Dig} {k : Nat} (h : 16 ≤ k) : List.drop k (dc d) = [] := List.drop_eq_nil_of_le (by rw [dc_length]; exact h)
theorem take_dc {d : Dig} {k : Nat} {r : List Value} (h : 16 ≤ k) : List.take k (dc d ++ r) = dc d ++ List.take (k - 16) r := by
  rw [List.take_append, List.take_of_length_le (by rw [dc_length]; exact h), dc_length]
theorem take_dc' {d : Dig} {k : Nat} (h : 16 ≤ k) : List.take k (dc d) = dc d := List.take_of_length_le (by rw [dc_length]; exact h)
theorem get_dc {d : Dig} {k : Nat} {r : List Value} (h : 16 ≤ k) : (dc d ++ r)[k]? = r[k - 16]? := by
  rw [List.getElem?_append_right (by rw [dc_length]; exact h), dc_length]
theorem all_cons' {v : Value} {l : List Value} (h : v.oneCell' = true) (k : ∀ u ∈ l, u.oneCell' = true) : ∀ u ∈ v :: l, u.oneCell' = true := by
  intro u hu
  rcases List.mem_cons.1 hu with rfl | hu
  · exact h
  · exact k u hu
theorem all_nil' : ∀ u ∈ ([] : List Value), u.oneCell' = true := fun u hu => by cases hu
theorem all_app' {l m : List Value} (h : ∀ u ∈ l, u.oneCell' = true) (k : ∀ u ∈ m, u.oneCell' = true) : ∀ u ∈ l ++ m, u.oneCell' = true := fun u hu => (List.mem_append.1 hu).elim (h u) (k u)
theorem wrap_i64 {x : Int} (h1 : -9223372036854775808 ≤ x) (h2 : x ≤ 9223372036854775807) : IntKind.i64.wrap x = x := by
  rw [IntKind.wrap_i64]; omega
theorem wrap_u64 {x : Int} (h1 : 0 ≤ x) (h2 : x ≤ 18446744073709551615) : IntKind.u64.wrap x = x := by
  simp only [IntKind.wrap, IntKind.bits, IntKind.signed]; simp; omega
theorem wrap_u8 {x : Int} (h1 : 0 ≤ x) (h2 : x ≤ 255) : IntKind.u8.wrap x = x := by
  simp only [IntKind.wrap, IntKind.bits, IntKind.signed]; simp; omega
theorem wpStill_mono' {P : Program} {ops : Array Oper} {w : World} {C C' : Act → Prop} (h : ∀ a, C a → C' a) : ∀ {l : List Oper} {a : Act}, wpStill P ops w C l a → wpStill P ops w C' l a
  | [], a, hh => h _ hh
  | o :: r, a, hh => by
    unfold wpStill at hh ⊢
    split
    · rename_i hw; rw [if_pos hw] at hh; exact Oper.still_mono (fun a' h' => wpStill_mono' h h') hh
    · rename_i hw; rw [if_neg hw] at hh; exact wpStill_mono' h hh
section code
variable {P : Program} {w0 : World} {F0 : Nat → Prop} {L : List Res} {Q : Exit → Act → World → Prop} {n : Fm} {env : Env} {ops : Array Oper} {rest : List Oper}
theorem gc_condT {c : Operand} {x y : Code} {b : Bool} (hc : ev n env c = .bool b) (hb : b = true) (h : Gc P w0 F0 L x Q n env) : Gc P w0 F0 L (.cond c x y) Q n env :=
  gc_cond hc (fun _ => h) (fun h' => by rw [hb] at h'; cases h')
theorem gc_condF {c : Operand} {x y : Code} {b : Bool} (hc : ev n env c = .bool b) (hb : b = false) (h : Gc P w0 F0 L y Q n env) : Gc P w0 F0 L (.cond c x y) Q n env :=
  gc_cond hc (fun h' => by rw [hb] at h'; cases h') (fun _ => h)
def headE {α : Type} (slots : α → Env) (junk : List Nat) (env : Env) (a : α) (u : Nat → Value) : Env := slots a ++ (junk.map (fun t => (t, u t)) ++ env)
def RoundK {α : Type} (w0 : World) (F0 : Nat → Prop) (Ls : α → List Res) (slots : α → Env) (junk : List Nat) (μ : α → Nat) (n : Fm) (env : Env) (m : Nat) (act : Act) (w : World) : Prop :=
  ∃ a u, μ a < m ∧ act = fr n (headE slots junk env a u) ∧ St w0 F0 (Ls a) w
theorem gc_loop {α : Type} {c : Code} (Ls : α → List Res) (slots : α → Env) (junk : List Nat) (μ : α → Nat) (a0 : α)
    (henv : fr n env = fr n (headE slots junk env a0 (Env.get env))) (h0 : ∀ w, St w0 F0 L w → St w0 F0 (Ls a0) w)
    (round : ∀ a u, Gc P w0 F0 (Ls a) c (Exit.then (RoundK w0 F0 Ls slots junk μ n env (μ a)) Q) n (headE slots junk env a u)) : Gc P w0 F0 L (.loop c) Q n env := by
  intro w hw
  rw [henv]
  intro b k cs hro hb hr
  have key : ∀ m a u w, μ a = m → St w0 F0 (Ls a) w →
      ∃ e a' w', Q e a' w' ∧ ArrivesIn (Machine.fenced P (FR n.ro)) P (lone (b.atR (fr n (headE slots junk env a u)) (.code c :: .inLoop c :: k)) cs w) b k cs e a' w' := by
    intro m
    induction m using Nat.strongRecOn with
    | _ m ih =>
      intro a u w hm hs
      obtain ⟨e, a₁, w₁, hq, harr⟩ := round a u w hs b (.inLoop c :: k) cs hro hb hr
      cases e with
      | normal =>
        obtain ⟨a', u', hlt, rfl, hs'⟩ := hq
        obtain ⟨e₂, a₂, w₂, hq₂, harr₂⟩ := ih (μ a') (hm ▸ hlt) a' u' w₁ rfl hs'
        exact ⟨e₂, a₂, w₂, hq₂, .of_steps (StepsIn.trans harr (.one (fenced_calm hb hr rfl) stepR_inLoop)) harr₂⟩
      | exit id => exact ⟨_, a₁, w₁, hq, .pass (x := .inLoop c) rfl (fun _ _ => .inl (by simp)) harr⟩
      | goto l => exact ⟨_, a₁, w₁, hq, .pass (x := .inLoop c) rfl (fun _ _ => .inl (by simp)) harr⟩
      | ret => exact ⟨_, a₁, w₁, hq, .pass (x := .inLoop c) rfl (fun _ _ => .inl (by simp)) harr⟩
      | panic ch => exact ⟨_, a₁, w₁, hq, .pass (x := .inLoop c) rfl (fun _ _ => .inl (by simp)) harr⟩
      | outgrown => exact ⟨_, a₁, w₁, hq, .pass (x := .inLoop c) rfl (fun _ _ => .inl (by simp)) harr⟩
  obtain ⟨e, a', w', hq, harr⟩ := key _ a0 (Env.get env) w rfl (h0 w hw)
  exact ⟨e, a', w', hq, .of_steps (.one (fenced_calm hb hr rfl) stepR_loop) harr⟩
section round
variable {α : Type} {Ls : α → List Res} {slots : α → Env} {junk : List Nat} {μ : α → Nat} {env0 : Env} {m : Nat}
theorem gx_round (a : α) (hE : fr n env = fr n (headE slots junk env0 a (Env.get env))) (hm : μ a < m) (hL : ∀ w, St w0 F0 L w → St w0 F0 (Ls a) w) :
    Gx w0 F0 L (Exit.then (RoundK w0 F0 Ls slots junk μ n env0 m) Q) .normal n env := fun w hw => ⟨a, Env.get env, hm, hE, hL w hw⟩
theorem gx_round_exit {K : Act → World → Prop} {id : Nat} (h : Gx w0 F0 L Q (.exit id) n env) : Gx w0 F0 L (Exit.then K Q) (.exit id) n env := h
theorem gx_round_ret {K : Act → World → Prop} (h : Gx w0 F0 L Q .ret n env) : Gx w0 F0 L (Exit.then K Q) .ret n env := h
theorem get_over {e X : Env} {t : Nat} : ∀ {s : Env}, (∀ p ∈ s, Env.get e p.1 = p.2) → ((∀ p ∈ s, p.1 ≠ t) → Env.get X t = Env.get e t) → Env.get (s ++ X) t = Env.get e t
  | [], _, hX => hX (by simp)
  | (k, v) :: s, h, hX => by
    simp only [List.cons_append, Env.get]
    cases hb : Nat.beq t k with
    | true =>
      have := Nat.eq_of_beq_eq_true hb
      subst this
      exact (h _ (List.mem_cons_self)).symm
    | false =>
      refine get_over (fun p hp => h p (List.mem_cons_of_mem _ hp)) (fun hs => hX fun p hp => ?_)
      rcases List.mem_cons.1 hp with rfl | hp
      · intro he; simp only at he; subst he; rw [Nat.beq_refl] at hb; cases hb
      · exact hs p hp
theorem get_under {X : Env} {t : Nat} : ∀ {s : Env}, (∀ p ∈ s, p.1 ≠ t) → Env.get (s ++ X) t = Env.get X t
  | [], _ => rfl
  | (k, v) :: s, h => by
    simp only [List.cons_append, Env.get]
    cases hb : Nat.beq t k with
    | true => exact absurd (Nat.eq_of_beq_eq_true hb).symm (h _ (List.mem_cons_self))
    | false => exact get_under fun p hp => h p (List.mem_cons_of_mem _ hp)
theorem env_start {a0 : α} {e : Env} (hs : (slots a0).map (fun p => Env.get e p.1) = (slots a0).map Prod.snd) : fr n e = fr n (headE slots junk e a0 (Env.get e)) := by
  refine fr_ext fun t _ => (get_over (fun p hp => ?_) fun _ => get_over (fun p hp => ?_) fun _ => rfl).symm
  · exact (List.map_inj_left.1 hs p hp)
  · obtain ⟨j, _, rfl⟩ := List.mem_map.1 hp; rfl
inductive Front (b : Env) : Env → List Nat → Prop
  | here : Front b b []
  | there {k : Nat} {v : Value} {e : Env} {f : List Nat} : Front b e f → Front b ((k, v) :: e) (k :: f)
theorem Front.get {b e : Env} {f : List Nat} (h : Front b e f) {t : Nat} (ht : t ∉ f) : Env.get e t = Env.get b t := by
  induction h with
  | here => rfl
  | there h ih =>
    rename_i k v e f
    simp only [Env.get]
    cases hb : Nat.beq t k with
    | true => exact absurd (Nat.eq_of_beq_eq_true hb) (fun he => ht (by simp [he]))
    | false => exact ih fun hm => ht (List.mem_cons_of_mem _ hm)
theorem env_next {a a' : α} {u : Nat → Value} {e : Env} {f : List Nat} (hf : Front (headE slots junk env0 a u) e f) (hs : (slots a').map (fun p => Env.get e p.1) = (slots a').map Prod.snd)
    (hk : f.all (fun t => ((slots a').map Prod.fst).contains t || junk.contains t) = true) (hkeys : (slots a).map Prod.fst = (slots a').map Prod.fst) : fr n e = fr n (headE slots junk env0 a' (Env.get e)) := by
  refine fr_ext fun t _ => (get_over (fun p hp => ?_) fun h1 => get_over (fun p hp => ?_) fun h2 => ?_).symm
  · exact (List.map_inj_left.1 hs p hp)
  · obtain ⟨j, _, rfl⟩ := List.mem_map.1 hp; rfl
  · have h2' : t ∉ junk := fun hm => h2 (t, Env.get e t) (List.mem_map.2 ⟨t, hm, rfl⟩) rfl
    have h1' : t ∉ (slots a').map Prod.fst := fun hm => by
      obtain ⟨p, hp, rfl⟩ := List.mem_map.1 hm
      exact h1 p hp rfl
    rw [hf.get (t := t) (fun hm => by
      have := List.all_eq_true.1 hk t hm
      simp only [Bool.or_eq_true, List.contains_iff_mem] at this
      exact this.elim h1' h2')]
    rw [headE, get_under, get_under]
    · intro p hp he
      obtain ⟨j, hj, rfl⟩ := List.mem_map.1 hp
      simp only at he; subst he; exact h2' hj
    · intro p hp he
      exact h1' (by rw [← hkeys]; exact List.mem_map.2 ⟨p, hp, he⟩)
end round
theorem St.drawn {w : World} (hs : St w0 F0 L w) (k : Nat) : St w0 F0 L { w with drawn := k } := by
  obtain ⟨F, hF, hst⟩ := hs
  exact ⟨F, stars_loc hF fun _ _ => rfl, ⟨hst.os, hst.tape, hst.output, hst.size, hst.block, hst.own⟩⟩
def Gs (P : Program) (w0 : World) (F0 : Nat → Prop) (L : List Res) (ops : Array Oper) (todo : List Oper) (n : Fm) (env : Env) (C : Env → Prop) : Prop :=
  ∀ w, St w0 F0 L w → wpStill P ops w (fun a => ∃ env', a = fr n env' ∧ C env') todo (fr n env)
theorem gs_nil {C : Env → Prop} (h : C env) : Gs P w0 F0 L ops [] n env C := fun w _ => wpStill_nil ⟨env, rfl, h⟩
theorem gs_pure {d : Tmp} {op : Op} {ty : TypeId} {pos : String} {af : Array Edge} {gd : Option (Nat × Bool)} {v : Value} {C : Env → Prop} (hw : Wt ops n env ⟨some d, op, ty, pos, af, gd⟩ true)
    (h : Runs P w0 F0 L n env ⟨some d, op, ty, pos, af, gd⟩ v) (k : Gs P w0 F0 L ops rest n ((d, v) :: env) C) : Gs P w0 F0 L ops (⟨some d, op, ty, pos, af, gd⟩ :: rest) n env C := by
  intro w hs
  refine wpStill_step ?_
  intro K hK
  rw [if_pos (show Region.wanted _ _ = true from hw)]
  unfold Oper.still
  rw [fr_eval, h w hs, Oper.stillUpon_value, fr_put]
  exact hK _ (k w hs)
theorem gs_passD {d : Tmp} {op : Op} {ty : TypeId} {pos : String} {af : Array Edge} {gd : Option (Nat × Bool)} {C : Env → Prop} (hw : Wt ops n env ⟨some d, op, ty, pos, af, gd⟩ false)
    (k : Gs P w0 F0 L ops rest n ((d, undef) :: env) C) : Gs P w0 F0 L ops (⟨some d, op, ty, pos, af, gd⟩ :: rest) n env C := by
  intro w hs
  refine wpStill_step ?_
  intro K hK
  rw [if_neg (by rw [show Region.wanted _ _ = false from hw]; simp), fr_put]
  exact hK _ (k w hs)
theorem gc_regionT {id : Nat} {l : List Oper} (k : Nat) (hm : P.follows .mixedOrders = true) (hB : Region.lexTailB .any l.toArray k = true)
    (h : Gs P w0 F0 L l.toArray (l.take k) n env (fun env' => Gl P w0 F0 L l.toArray Q (l.drop k) n env')) : Gc P w0 F0 L (.region id l.toArray true) Q n env := fun w hw => by
  refine wpIn_region_T k hm hB ?_
  have hw' := hw.drawn (w.drawn + 1)
  have := h _ hw'
  refine wpStill_mono' (fun a ⟨env', ha, hC⟩ => ?_) this
  subst ha
  exact hC _ hw'
end code
end
section
theorem Stp.rd {w0 w : World} {F0 F1 F2 : Nat → Prop} (h : Stp w0 F0 w (fun k => F1 k ∨ F2 k)) : ∀ k, k < w0.heap.size → ¬ F0 k → w.heap[k]? = w0.heap[k]? ∧ ¬ F1 k :=
  fun k hk hn => ⟨(h.old hk hn).1, fun hf => (h.old hk hn).2 (.inl hf)⟩
theorem rd_row {L L' : List Res} {w : World} {F1 F2 : Nat → Prop} {e size n c : Nat} {a : Option Addr} {xs : List Value} (h2 : stars L w F2) (hd : ∀ k, F1 k → ¬ F2 k) (hp : Pick L (rowR e size a n c xs) L') :
    RdRow w (fun k => ¬ F1 k) size a n xs := by
  obtain ⟨F', h', hs⟩ := stars_pick hp h2
  exact (rowR.rd h').mv fun k _ hk => ⟨rfl, fun h1 => hd k h1 (hs k hk)⟩
theorem RdRow.of_blk {w : World} {F : Nat → Prop} {g T o n size : Nat} {cs xs : List Value} (h : (blk g T cs).on w F) (hx : (cs.drop o).take (n * size) = xs) (hl : xs.length = n * size) (hn : n ≤ maxLen) : RdRow w F size (some ⟨g, o, none⟩) n xs := by
  refine ⟨hl, hn, fun _ => ⟨g, o, rfl, (h.1 g).2 rfl, (blk g T cs).lt h g ((h.1 g).2 rfl), fun j v hj => ?_⟩⟩
  rw [cell_blk h]
  rw [← hx, List.getElem?_take] at hj
  split at hj
  · rwa [List.getElem?_drop] at hj
  · cases hj
theorem rd_blk {L L' : List Res} {w : World} {F1 F2 : Nat → Prop} {g T o n size : Nat} {cs xs : List Value} (h2 : stars L w F2) (hd : ∀ k, F1 k → ¬ F2 k) (hp : Pick L (blk g T cs) L') (hx : (cs.drop o).take (n * size) = xs) (hl : xs.length = n * size) (hn : n ≤ maxLen) :
    RdRow w (fun k => ¬ F1 k) size (some ⟨g, o, none⟩) n xs := by
  obtain ⟨F', h', hs⟩ := stars_pick hp h2
  exact (RdRow.of_blk h' hx hl hn).mv fun k _ hk => ⟨rfl, fun h1 => hd k h1 (hs k hk)⟩
def fillL (place : Nat → Option (Nat × Nat)) : List Value → List (Nat × Value) → Option (List Value)
  | cs, [] => some cs
  | cs, (i, v) :: r => match place i with
    | none => none
    | some (o, s) => if v.cells.toList.length = s ∧ o + v.cells.toList.length ≤ cs.length then fillL place (updL cs o v.cells.toList) r else none
theorem foldl_set (cs : Array Value) (o : Nat) : ∀ (l : List Value) (k : Nat) (m : Array Value), o + k + l.length ≤ m.size →
    ((l.zipIdx k).foldl (fun m p => m.setIfInBounds (o + p.2) p.1) m).toList = updL m.toList (o + k) l
  | [], k, m, _ => by simp [updL]
  | v :: r, k, m, h => by
    simp only [List.length_cons] at h
    simp only [List.zipIdx_cons, List.foldl_cons]
    rw [foldl_set cs o r (k + 1) _ (by simp; omega), updL_cons (by simp; omega)]
    simp [Nat.add_assoc]
theorem fill_of (place : Nat → Option (Nat × Nat)) : ∀ (parts : List (Nat × Value)) (cs : Array Value) (out : List Value), fillL place cs.toList parts = some out → Instr.fill place cs parts = some out.toArray
  | [], cs, out, h => by simp [fillL] at h; subst h; simp [Instr.fill]
  | (i, v) :: r, cs, out, h => by
    simp only [fillL] at h
    cases hp : place i with
    | none => simp [hp] at h
    | some p =>
      obtain ⟨o, s⟩ := p
      simp only [hp] at h
      split at h
      · rename_i hh
        obtain ⟨h1, h2⟩ := hh
        have hs : v.cells.size = s := by simpa using h1
        have hl : ¬ (o + v.cells.size > cs.size) := by simp at h2 ⊢; omega
        have := foldl_set cs o v.cells.toList 0 cs (by simp at h2 ⊢; omega)
        simp only [Nat.add_zero] at this
        simp only [Instr.fill, hp, hs, ne_eq, not_true_eq_false, false_or]
        rw [if_neg (by simp at hl ⊢; omega)]
        refine fill_of place r _ out ?_
        rw [← h]
        congr 1
        rw [← this, ← Array.foldl_toList, Array.toList_zipIdx]
      · cases h
theorem run_mapM_places {P : Program} {w : World} : ∀ (fs : List Field) (pl : List (Nat × Nat)), (fs.mapM fun f => (szT P f.type).map fun s => (f.offset, s)) = some pl →
    (fs.mapM (m := Sem) fun f => (fun s => (f.offset, s)) <$> sizeOf f.type).run P w = .ok pl w
  | [], pl, h => by simp at h; subst h; simp
  | f :: r, pl, h => by
    simp only [List.mapM_cons, Option.bind_eq_bind, Option.pure_def] at h
    cases hs : szT P f.type with
    | none => simp [hs] at h
    | some s =>
      cases hr : (r.mapM fun f => (szT P f.type).map fun s => (f.offset, s)) with
      | none => simp [hs, hr] at h
      | some q =>
        simp [hs, hr] at h
        subst h
        have ih := run_mapM_places (P := P) (w := w) r q hr
        simp only [List.mapM_cons, Sem.run_bind, Sem.run_map, run_sz hs, Result.andThen_ok, ih, Sem.run_pure]
section lits
variable {P : Program} {w0 : World} {F0 : Nat → Prop} {L : List Res} {Q : Exit → Act → World → Prop} {n : Fm} {env : Env} {ops : Array Oper} {rest : List Oper}
variable {d : Option Tmp} {ty : TypeId} {pos : String} {af : Array Edge} {gd : Option (Nat × Bool)}
theorem r_build {T : TypeId} {parts : Array (Nat × Operand)} {zs cs : List Value} {pl : List (Nat × Nat)} (hz : zcT P T = some zs) (hp : placesT P T = some pl)
    (hf : fillL (pl[·]?) zs (parts.toList.map fun p => (p.1, ev n env p.2)) = some cs) : Runs P w0 F0 L n env ⟨d, .build T parts, ty, pos, af, gd⟩ (.agg cs.toArray) := fun w _ => by
  obtain ⟨z, hz', hc⟩ := zcT_some hz
  unfold placesT at hp
  cases hu : P.underlying T with
  | none => simp [hu] at hp
  | some dsc =>
    cases dsc <;> simp [hu] at hp
    rename_i fs
    have hm := run_mapM_places (P := P) (w := w) fs.toList pl hp
    have hf' : Instr.fill (pl.toArray[·]?) z.cells (parts.toList.map fun p => (p.1, ev n env p.2)) = some cs.toArray := fill_of _ _ _ _ (by rw [hc]; simpa using hf)
    simp only [execOp, Instr.build, Sem.run_bind, run_zeroT hz', Result.andThen_ok, run_underlying hu]
    rw [show (fs.mapM (m := Sem) fun f => do pure (f.offset, ← sizeOf f.type)) = List.toArray <$> (fs.toList.mapM (m := Sem) fun f => (fun s => (f.offset, s)) <$> sizeOf f.type) from by
      rw [Array.mapM_eq_mapM_toList]; simp]
    have hcomp : (parts.map fun (i, x) => (i, ev n env x)).toList = parts.toList.map fun p => (p.1, ev n env p.2) := by simp
    simp only [Sem.run_map, hm, Result.andThen_ok, hcomp, hf']
    rfl
theorem gl_bslice {t : Tmp} {T e s len : Nat} {parts : Array (Nat × Operand)} {z : List Value} {cs : List Value} (hw : Wt ops n env ⟨some t, .buildSlice T len parts, ty, pos, af, gd⟩ true)
    (ht : sliceT P T = some e) (hs : szT P e = some s) (hl : len * s ≤ 16777216) (hl0 : len ≤ 16777216) (hpos : 0 < len * s) (hz : zcT P e = some z)
    (hf : fillL (fun i => some (i * s, s)) ((List.range (len * s)).map fun i => z.toArray[i % z.length]!) (parts.toList.map fun p => (p.1, ev n env p.2)) = some cs) (hcl : cs.length = len * s)
    (k : ∀ b, Gl P w0 F0 (rowR e s (some ⟨b, 0, none⟩) len len cs :: L) ops Q rest n ((t, .slice (some ⟨b, 0, none⟩) len len) :: env)) : Gl P w0 F0 L ops Q (⟨some t, .buildSlice T len parts, ty, pos, af, gd⟩ :: rest) n env := by
  refine gl_effx (α := Nat) (L' := fun b => rowR e s (some ⟨b, 0, none⟩) len len cs :: L) (v := fun b => .slice (some ⟨b, 0, none⟩) len len) hw (fun w hst => ?_) k
  obtain ⟨zv, hz', hc⟩ := zcT_some hz
  have hfill : Instr.fill (fun i => some (i * s, s)) ((Array.range (len * s)).map fun i => zv.cells[i % zv.cells.size]!) (parts.toList.map fun p => (p.1, ev n env p.2)) = some cs.toArray := by
    refine fill_of _ _ _ _ ?_
    rw [← hf]
    congr 1
    subst hc
    simp
  refine ⟨w.heap.size, { w with heap := w.heap.push (.cells cs.toArray e) }, ?_, ?_⟩
  · simp only [execOp, Instr.buildSlice, Sem.run_bind, run_underlying (run_sliceT ht), Result.andThen_ok, run_sz hs]
    have hlim : ¬ (16777216 < len * s) := by omega
    have h0 : ¬ (len * s = 0) := by omega
    have hcomp : (parts.map fun (i, x) => (i, ev n env x)).toList = parts.toList.map fun p => (p.1, ev n env p.2) := by simp
    rw [if_neg (by omega), if_neg h0]
    simp only [Sem.run_bind, run_zeroT hz', Result.andThen_ok, Sem.run_pure, hcomp, hfill, newRow, newObj, Sem.run, Sem.run_map]
  · refine hst.newRow (w' := { w with heap := w.heap.push (.cells cs.toArray e) }) (fz := (0, 0)) rfl rfl rfl rfl (fun j _ h => by simp at h) (by rw [← hcl]; simp) (Nat.le_refl _) ?_ (by simp; omega)
    simp only [maxLen]; omega
theorem gl_bslice0 {t : Tmp} {T e s : Nat} (hw : Wt ops n env ⟨some t, .buildSlice T 0 #[], ty, pos, af, gd⟩ true) (ht : sliceT P T = some e) (hs : szT P e = some s)
    (k : ∀ b, Gl P w0 F0 (rowR e s (some ⟨b, 0, none⟩) 0 0 [] :: L) ops Q rest n ((t, .slice (some ⟨b, 0, none⟩) 0 0) :: env)) : Gl P w0 F0 L ops Q (⟨some t, .buildSlice T 0 #[], ty, pos, af, gd⟩ :: rest) n env := by
  refine gl_effx (α := Nat) (L' := fun b => rowR e s (some ⟨b, 0, none⟩) 0 0 [] :: L) (v := fun b => .slice (some ⟨b, 0, none⟩) 0 0) hw (fun w hst => ?_) k
  refine ⟨w.heap.size, { w with heap := w.heap.push (.cells #[] e) }, ?_, hst.newRow (w' := { w with heap := w.heap.push (.cells #[] e) }) (fz := (0, 0)) rfl rfl rfl rfl (fun j _ h => by simp at h) (by simp) (Nat.le_refl _) (by simp [maxLen]) (by simp)⟩
  simp [execOp, Instr.buildSlice, run_underlying (run_sliceT ht), run_sz hs, Instr.fill, newRow, newObj, Sem.run]
  rw [show Array.map (fun _ : Nat => (default : Value)) (Array.range 0) = #[] from Array.eq_empty_of_size_eq_zero (by simp)]
theorem e_callv {x : Operand} {f : FuncId} {xs : List Operand} {ts : Array TypeId} {vs us : List Value} (hx : ev n env x = .func (.func f) #[] us.toArray) (hf : okCall P f = true) (hv : xs.map (ev n env) ++ us = vs) (w : World) :
    (execOp (ev n env) ⟨d, .call ⟨.value x, xs.toArray, ts⟩, ty, pos, af, gd⟩).run P w = .ok (.enter f vs.toArray) w := by
  subst hv
  unfold okCall at hf
  cases hp : P.funcs[f]? with
  | none => simp [hp] at hf
  | some fn =>
    cases hb : fn.body with
    | none => simp [hp, hb] at hf
    | some c =>
      have hn : ¬ fn.name = "runtime.NumGoroutine" := by simpa [hp, hb] using hf
      simp [execOp, resolve, hx, Deferred.ofValue, invoke, callFunc, program, Sem.run, hp, hb, hn]
end lits
end
section
theorem updL_all {cs vs : List Value} (h : cs.length = vs.length) : updL cs 0 vs = vs := by
  simp [updL, h]
theorem updL_mid {xs0 cs vs : List Value} (h : vs.length ≤ cs.length) : updL (xs0 ++ cs) xs0.length vs = xs0 ++ vs ++ cs.drop vs.length := by
  simp only [updL]
  rw [List.take_left' rfl, ← List.append_assoc, List.drop_append, List.drop_eq_nil_of_le (by omega), List.nil_append]
  congr 2; omega
theorem fillL_row (s : Nat) : ∀ (vs : List Value) (css : List (List Value)) (k : Nat) (done base : List Value), done.length = k * s → base.length = vs.length * s → vs.map (fun v => v.cells.toList) = css → (∀ c ∈ css, c.length = s) →
    fillL (fun i => some (i * s, s)) (done ++ base) ((List.range' k vs.length).zip vs) = some (done ++ css.flatten)
  | [], css, k, done, base, _, hb, hc, _ => by
    simp at hc; subst hc
    have : base = [] := List.eq_nil_of_length_eq_zero (by simpa using hb)
    subst this
    simp [fillL]
  | v :: r, css, k, done, base, hd, hb, hc, hs => by
    cases css with
    | nil => simp at hc
    | cons c css =>
      simp only [List.map_cons, List.cons.injEq] at hc
      obtain ⟨h1, h2⟩ := hc
      have hcs : c.length = s := hs c (by simp)
      simp only [List.length_cons, Nat.add_mul, Nat.one_mul] at hb
      simp only [List.length_cons, List.range'_succ, List.zip_cons_cons, fillL]
      rw [if_pos ⟨by rw [h1]; exact hcs, by rw [h1, List.length_append, hd, hcs]; omega⟩, h1, ← hd, updL_mid (by omega)]
      have ih := fillL_row s r css (k + 1) (done ++ c) (base.drop c.length) (by rw [List.length_append, hd, hcs, Nat.add_mul, Nat.one_mul]) (by rw [List.length_drop]; omega) h2 (fun c' hc' => hs c' (by simp [hc']))
      rw [ih]
      simp
theorem drop_q {q r : List Value} {m k : Nat} (hq : q.length = m) (h : m ≤ k) : List.drop k (q ++ r) = List.drop (k - m) r := by
  rw [List.drop_append, List.drop_eq_nil_of_le (by omega), hq]; rfl
theorem drop_q' {q : List Value} {m k : Nat} (hq : q.length = m) (h : m ≤ k) : List.drop k q = [] := List.drop_eq_nil_of_le (by omega)
theorem take_q {q r : List Value} {m k : Nat} (hq : q.length = m) (h : m ≤ k) : List.take k (q ++ r) = q ++ List.take (k - m) r := by
  rw [List.take_append, List.take_of_length_le (by omega), hq]
theorem take_q' {q : List Value} {m k : Nat} (hq : q.length = m) (h : m ≤ k) : List.take k q = q := List.take_of_length_le (by omega)
theorem get_q {q r : List Value} {m k : Nat} (hq : q.length = m) (h : m ≤ k) : (q ++ r)[k]? = r[k - m]? := by
  rw [List.getElem?_append_right (by omega), hq]
theorem seg_all {cs : List Value} {m : Nat} (h : cs.length = m) : (cs.drop 0).take m = cs := by rw [List.drop_zero, ← h, List.take_length]
section short
variable {P : Program} {w0 : World} {F0 : Nat → Prop} {L : List Res} {Q : Exit → Act → World → Prop} {n : Fm} {env : Env} {ops : Array Oper} {rest : List Oper}
variable {d : Option Tmp} {ty : TypeId} {pos : String} {af : Array Edge} {gd : Option (Nat × Bool)}
theorem r_val {o : Oper} {v v' : Value} (h : Runs P w0 F0 L n env o v) (e : v = v') : Runs P w0 F0 L n env o v' := e ▸ h
theorem r_bool {o : Oper} {b c : Bool} (h : Runs P w0 F0 L n env o (.bool b)) (e : b = c) : Runs P w0 F0 L n env o (.bool c) := e ▸ h
theorem r_makeF {f : Fn} {cs : List Operand} {us : List Value} (hc : cs.map (ev n env) = us) : Runs P w0 F0 L n env ⟨d, .makeFunc f #[] cs.toArray, ty, pos, af, gd⟩ (.func f #[] us.toArray) := fun w _ => by
  subst hc; simp [execOp, Instr.makeFunc]
theorem r_int {o : Oper} {k : IntKind} {i j : Int} (h : Runs P w0 F0 L n env o (.int k i)) (e : i = j) : Runs P w0 F0 L n env o (.int k j) := e ▸ h
theorem wtgT {o : Oper} {j t : Nat} {b : Bool} (h : o.guard = some (j, b)) (hd : (ops[j]?).bind (·.dst) = some t) (ht : Nat.blt t n.nt = true) (hv : Env.get env t = .bool b) : Wt ops n env o true := by
  have := wtg h hd ht hv; rwa [beq_self_eq_true] at this
theorem wtgF {o : Oper} {j t : Nat} {b c : Bool} (h : o.guard = some (j, b)) (hd : (ops[j]?).bind (·.dst) = some t) (ht : Nat.blt t n.nt = true) (hv : Env.get env t = .bool c) (hne : (c == b) = false) : Wt ops n env o false := by
  have := wtg h hd ht hv; rwa [hne] at this
theorem wtu {o : Oper} {j t : Nat} {b : Bool} (h : o.guard = some (j, b)) (hd : (ops[j]?).bind (·.dst) = some t) (ht : Nat.blt t n.nt = true) (hv : Env.get env t = undef) : Wt ops n env o false := by
  simp [Wt, Region.wanted, h, yielded, hd, fr_get? ht hv, undef]
theorem gl_bsl {t : Tmp} {T e s len : Nat} {parts : Array (Nat × Operand)} {vs : List Value} {css : List (List Value)} {cs : List Value} {z : List Value} (hw : Wt ops n env ⟨some t, .buildSlice T len parts, ty, pos, af, gd⟩ true)
    (ht : sliceT P T = some e) (hs : szT P e = some s) (hz : zcT P e = some z) (hp : parts.toList.map (fun p => (p.1, ev n env p.2)) = (List.range' 0 vs.length).zip vs) (hlen : vs.length = len) (hl : Nat.ble (len * s) 16777216 = true) (hl0 : Nat.ble len 16777216 = true) (hpos : Nat.blt 0 (len * s) = true)
    (hv : vs.map (fun v => v.cells.toList) = css) (hc : ∀ c ∈ css, c.length = s) (hcs : css.flatten = cs)
    (k : ∀ b, Gl P w0 F0 (rowR e s (some ⟨b, 0, none⟩) len len cs :: L) ops Q rest n ((t, .slice (some ⟨b, 0, none⟩) len len) :: env)) : Gl P w0 F0 L ops Q (⟨some t, .buildSlice T len parts, ty, pos, af, gd⟩ :: rest) n env := by
  have hflat : css.flatten.length = len * s := by
    have : ∀ (l : List (List Value)), (∀ c ∈ l, c.length = s) → l.flatten.length = l.length * s := by
      intro l
      induction l with
      | nil => simp
      | cons c l ih =>
        intro h
        rw [List.flatten_cons, List.length_append, ih (fun c' hc' => h c' (by simp [hc'])), h c (by simp), List.length_cons, Nat.add_mul, Nat.one_mul, Nat.add_comm]
    rw [this css hc, ← hlen, ← hv, List.length_map]
  rw [Nat.blt_eq] at hpos
  refine gl_bslice (cs := cs) hw ht hs (Nat.le_of_ble_eq_true hl) (Nat.le_of_ble_eq_true hl0) hpos hz ?_ (by rw [← hcs]; exact hflat) k
  rw [hp, ← hcs]
  have := fillL_row s vs css 0 [] ((List.range (len * s)).map fun i => z.toArray[i % z.length]!) (by simp) (by simp [hlen]) hv hc
  simpa using this
theorem gl_bsl1 {t : Tmp} {T e : Nat} {x : Operand} {v : Value} {z : List Value} (hw : Wt ops n env ⟨some t, .buildSlice T 1 #[(0, x)], ty, pos, af, gd⟩ true) (ht : sliceT P T = some e) (hs : szT P e = some 1) (hz : zcT P e = some z)
    (hx : ev n env x = v) (h1 : v.oneCell' = true)
    (k : ∀ b, Gl P w0 F0 (rowR e 1 (some ⟨b, 0, none⟩) 1 1 [v] :: L) ops Q rest n ((t, .slice (some ⟨b, 0, none⟩) 1 1) :: env)) : Gl P w0 F0 L ops Q (⟨some t, .buildSlice T 1 #[(0, x)], ty, pos, af, gd⟩ :: rest) n env :=
  gl_bsl (vs := [v]) (css := [[v]]) hw ht hs hz (by simp [hx]) rfl rfl rfl rfl (by cases v <;> first | rfl | (simp [Value.oneCell'] at h1)) (by simp) (by simp) k
theorem gl_bslN {t : Tmp} {T e s : Nat} {x : Operand} {cs : List Value} {z : List Value} (hw : Wt ops n env ⟨some t, .buildSlice T 1 #[(0, x)], ty, pos, af, gd⟩ true) (ht : sliceT P T = some e) (hs : szT P e = some s) (hz : zcT P e = some z)
    (hx : ev n env x = .agg cs.toArray) (hl : cs.length = s) (hb : Nat.ble (1 * s) 16777216 = true) (hp : Nat.blt 0 (1 * s) = true)
    (k : ∀ b, Gl P w0 F0 (rowR e s (some ⟨b, 0, none⟩) 1 1 cs :: L) ops Q rest n ((t, .slice (some ⟨b, 0, none⟩) 1 1) :: env)) : Gl P w0 F0 L ops Q (⟨some t, .buildSlice T 1 #[(0, x)], ty, pos, af, gd⟩ :: rest) n env :=
  gl_bsl (vs := [.agg cs.toArray]) (css := [cs]) hw ht hs hz (by simp [hx]) rfl hb rfl hp (by simp [Value.cells]) (by simpa using hl) (by simp) k
theorem gl_bsls {t : Tmp} {T e len : Nat} {parts : Array (Nat × Operand)} {vs : List Value} {z : List Value} (hw : Wt ops n env ⟨some t, .buildSlice T len parts, ty, pos, af, gd⟩ true) (ht : sliceT P T = some e) (hs : szT P e = some 1) (hz : zcT P e = some z)
    (hp : parts.toList.map (fun p => (p.1, ev n env p.2)) = (List.range' 0 vs.length).zip vs) (hlen : vs.length = len) (h1 : ∀ v ∈ vs, v.oneCell' = true) (hb : Nat.ble (len * 1) 16777216 = true) (hb' : Nat.ble len 16777216 = true) (hpos : Nat.blt 0 (len * 1) = true)
    (k : ∀ b, Gl P w0 F0 (rowR e 1 (some ⟨b, 0, none⟩) len len vs :: L) ops Q rest n ((t, .slice (some ⟨b, 0, none⟩) len len) :: env)) : Gl P w0 F0 L ops Q (⟨some t, .buildSlice T len parts, ty, pos, af, gd⟩ :: rest) n env :=
  gl_bsl (vs := vs) (css := vs.map fun v => [v]) hw ht hs hz hp hlen hb hb' hpos (List.map_congr_left fun v hv => by have := h1 v hv; cases v <;> first | rfl | (simp [Value.oneCell'] at this)) (by simp) (by
    clear hp hlen h1 k
    induction vs with
    | nil => rfl
    | cons v r ih => simp [ih]) k
theorem r_ldNo {x : Operand} {T g o m : Nat} {seg : List Value} (hx : ev n env x = .pointer (some ⟨g, o, none⟩)) (hr : rowT P T = some true) (hs : szT P T = some m) (hg : w0.rangeAt g o seg) (hl : seg.length = m) (hp : 0 < m) (hn : ¬ F0 g) :
    Runs P w0 F0 L n env ⟨d, .load T x, ty, pos, af, gd⟩ (.agg seg.toArray) := r_load hx fun w ⟨F, hF, hst⟩ => by
  refine run_loadVar_agg hr hs hl fun j v hj => ?_
  have h0 := hg j v hj
  rw [World.cell?_of_block (hst.old (World.block_lt_of_cell? w0 _ h0) hn).1]; exact h0
theorem r_eqnil_sl {x : Operand} {T T' e : TypeId} {a : Option Addr} {m c : Nat} (hx : ev n env x = .slice a m c) (ht : sliceT P T = some e) : Runs P w0 F0 L n env ⟨d, .binOp .eql T x (.const (.slice none 0 0)) T', ty, pos, af, gd⟩ (.bool a.isNone) := fun w _ => by
  have h : ∀ k : Nat, (Op.equalIn (k + 1) T (.slice a m c) (.slice none 0 0)).run P w = .ok a.isNone w := fun k => by
    cases a <;> simp [Op.equalIn, run_underlying (run_sliceT ht)]
  have hc : ev n env (.const (.slice none 0 0)) = .slice none 0 0 := rfl
  simp [execOp, hx, hc, eqGuard, binOp, Op.equal, Op.maxDepth, h 9999]
theorem gc_pure1 {c : Code} {p : Prop} {L' : List Res} (hp : Pick L (pureR p) L') (k : p → Gc P w0 F0 L c Q n env) : Gc P w0 F0 L c Q n env := fun w hw => by
  have hw' := hw
  obtain ⟨F, hF, _⟩ := hw'
  obtain ⟨F1, h1, _⟩ := stars_pick hp hF
  exact k h1.2 w hw
theorem gc_regionS {id : Nat} {l : List Oper} (hm : P.follows .mixedOrders = true) (hB : Region.lexB .any l.toArray = true)
    (h : Gs P w0 F0 L l.toArray l n env (fun env' => Gx w0 F0 L Q .normal n env')) : Gc P w0 F0 L (.region id l.toArray true) Q n env := fun w hw => by
  refine wpIn_region_S hm hB ?_
  have hw' := hw.drawn (w.drawn + 1)
  refine wpStill_mono' (fun a ⟨env', ha, hC⟩ => ?_) (h _ hw')
  subst ha
  exact hC _ hw'
end short
end
section
def W32 (x : UInt32) : Value := .int .u32 (x.toNat : Int)
theorem u32_wrap (i : Int) : IntKind.u32.wrap i = i % 4294967296 := by simp [IntKind.wrap, IntKind.bits, IntKind.signed]
theorem w_add (a b : UInt32) : IntKind.u32.wrap ((a.toNat : Int) + b.toNat) = ((a + b).toNat : Int) := by
  rw [u32_wrap, UInt32.toNat_add]; omega
theorem w_mul (a b : UInt32) : IntKind.u32.wrap ((a.toNat : Int) * b.toNat) = ((a * b).toNat : Int) := by
  rw [u32_wrap, UInt32.toNat_mul]; simp
theorem w_bv (a : UInt32) : BitVec.ofInt IntKind.u32.bits (a.toNat : Int) = a.toBitVec := by
  show BitVec.ofInt 32 ((a.toNat : Nat) : Int) = a.toBitVec
  rw [BitVec.ofInt_natCast]; exact BitVec.eq_of_toNat_eq (by have := a.toNat_lt; rw [BitVec.toNat_ofNat]; exact Nat.mod_eq_of_lt this)
theorem w_back (x : BitVec 32) : IntKind.u32.wrap (x.toNat : Int) = (x.toNat : Int) := by
  have := x.isLt; rw [u32_wrap]; omega
theorem w_and (a b : UInt32) : bitop .and .u32 (a.toNat : Int) (b.toNat : Int) = ((a &&& b).toNat : Int) := by
  simp only [bitop, w_bv]; exact w_back (a.toBitVec &&& b.toBitVec)
theorem w_or (a b : UInt32) : bitop .or .u32 (a.toNat : Int) (b.toNat : Int) = ((a ||| b).toNat : Int) := by
  simp only [bitop, w_bv]; exact w_back (a.toBitVec ||| b.toBitVec)
theorem w_xor (a b : UInt32) : bitop .xor .u32 (a.toNat : Int) (b.toNat : Int) = ((a ^^^ b).toNat : Int) := by
  simp only [bitop, w_bv]; exact w_back (a.toBitVec ^^^ b.toBitVec)
theorem w_not (a : UInt32) : bitop .xor .u32 4294967295 (a.toNat : Int) = ((~~~a).toNat : Int) := by
  have e : BitVec.ofInt IntKind.u32.bits 4294967295 = BitVec.allOnes 32 := rfl
  simp only [bitop, w_bv, e]
  have h : BitVec.allOnes 32 ^^^ a.toBitVec = ~~~a.toBitVec := by rw [BitVec.allOnes_xor]
  exact (congrArg (fun x : BitVec 32 => IntKind.u32.wrap (x.toNat : Int)) h).trans (w_back (~~~a.toBitVec))
theorem ofNat_small {j : Nat} (h : j < 32) : (UInt32.ofNat j).toNat = j := by
  rw [UInt32.toNat_ofNat']; omega
theorem w_shl (a : UInt32) {j : Nat} (h : j < 32) : IntKind.u32.wrap ((a.toNat : Int) * 2 ^ (min (j : Int).toNat IntKind.u32.bits)) = ((a <<< UInt32.ofNat j).toNat : Int) := by
  have e : min (j : Int).toNat IntKind.u32.bits = j := by simp only [IntKind.bits]; omega
  rw [e, u32_wrap, UInt32.toNat_shiftLeft, ofNat_small h, Nat.mod_eq_of_lt h, Nat.shiftLeft_eq, Int.natCast_emod, Int.natCast_mul, Int.natCast_pow]
  rfl
theorem w_shr (a : UInt32) {j : Nat} (h : j < 32) : (a.toNat : Int).fdiv (2 ^ (min (j : Int).toNat IntKind.u32.bits)) = ((a >>> UInt32.ofNat j).toNat : Int) := by
  have e : min (j : Int).toNat IntKind.u32.bits = j := by simp only [IntKind.bits]; omega
  rw [e, UInt32.toNat_shiftRight, ofNat_small h, Nat.mod_eq_of_lt h, Nat.shiftRight_eq_div_pow, Int.fdiv_eq_ediv_of_nonneg _ (by exact Int.le_of_lt (Int.pow_pos (by omega))), Int.natCast_ediv, Int.natCast_pow]
  rfl
theorem run_part1 {P : Program} {T off : Nat} {cs : List Value} {v : Value} (hr : rowT P T = some false) (hv : cs[off]? = some v) (w : World) : (part T cs.toArray off).run P w = .ok v w := by
  simp [part, run_rowT hr, hv]
section
variable {P : Program} {w0 : World} {F0 : Nat → Prop} {L : List Res} {Q : Exit → Act → World → Prop} {n : Fm} {env : Env} {ops : Array Oper} {rest : List Oper}
variable {d : Option Tmp} {ty : TypeId} {pos : String} {af : Array Edge} {gd : Option (Nat × Bool)}
theorem r_xorU {x : Operand} {T : TypeId} {k : IntKind} {i : Int} (hk : k.signed = false) (hx : ev n env x = .int k i) : Runs P w0 F0 L n env ⟨d, .unOp .xor T x, ty, pos, af, gd⟩ (.int k (bitop .xor k k.max i)) := fun w _ => by
  have e : (Op.unary .xor (.int k i)) = Op.intBits .xor k k.max i := by simp [Op.unary, hk]
  simp only [execOp, hx, e]; rfl
theorem r_addw {T T' : TypeId} {x y : Operand} {a b : UInt32} (hx : ev n env x = W32 a) (hy : ev n env y = W32 b) : Runs P w0 F0 L n env ⟨d, .binOp .add T x y T', ty, pos, af, gd⟩ (W32 (a + b)) := r_int (r_add hx hy) (w_add a b)
theorem r_mulw {T T' : TypeId} {x y : Operand} {a b : UInt32} (hx : ev n env x = W32 a) (hy : ev n env y = W32 b) : Runs P w0 F0 L n env ⟨d, .binOp .mul T x y T', ty, pos, af, gd⟩ (W32 (a * b)) := r_int (r_mul hx hy) (w_mul a b)
theorem r_andw {T T' : TypeId} {x y : Operand} {a b : UInt32} (hx : ev n env x = W32 a) (hy : ev n env y = W32 b) : Runs P w0 F0 L n env ⟨d, .binOp .and T x y T', ty, pos, af, gd⟩ (W32 (a &&& b)) := r_int (r_bits (op := .and) rfl hx hy) (w_and a b)
theorem r_orw {T T' : TypeId} {x y : Operand} {a b : UInt32} (hx : ev n env x = W32 a) (hy : ev n env y = W32 b) : Runs P w0 F0 L n env ⟨d, .binOp .or T x y T', ty, pos, af, gd⟩ (W32 (a ||| b)) := r_int (r_bits (op := .or) rfl hx hy) (w_or a b)
theorem r_xorw {T T' : TypeId} {x y : Operand} {a b : UInt32} (hx : ev n env x = W32 a) (hy : ev n env y = W32 b) : Runs P w0 F0 L n env ⟨d, .binOp .xor T x y T', ty, pos, af, gd⟩ (W32 (a ^^^ b)) := r_int (r_bits (op := .xor) rfl hx hy) (w_xor a b)
theorem r_notw {T : TypeId} {x : Operand} {a : UInt32} (hx : ev n env x = W32 a) : Runs P w0 F0 L n env ⟨d, .unOp .xor T x, ty, pos, af, gd⟩ (W32 (~~~a)) := r_int (r_xorU (k := .u32) rfl hx) (w_not a)
theorem r_shlw {T T' : TypeId} {x y : Operand} {k : IntKind} {a : UInt32} {i : Int} {j : Nat} (hx : ev n env x = W32 a) (hy : ev n env y = .int k i) (hi : i = (j : Int)) (hj : j < 32) : Runs P w0 F0 L n env ⟨d, .binOp .shl T x y T', ty, pos, af, gd⟩ (W32 (a <<< UInt32.ofNat j)) := by
  subst hi; exact r_int (r_shl hx hy (by omega)) (w_shl a hj)
theorem r_shrw {T T' : TypeId} {x y : Operand} {k : IntKind} {a : UInt32} {i : Int} {j : Nat} (hx : ev n env x = W32 a) (hy : ev n env y = .int k i) (hi : i = (j : Int)) (hj : j < 32) : Runs P w0 F0 L n env ⟨d, .binOp .shr T x y T', ty, pos, af, gd⟩ (W32 (a >>> UInt32.ofNat j)) := by
  subst hi; exact r_int (r_shr hx hy (by omega)) (w_shr a hj)
theorem r_conv8w {S T : TypeId} {x : Operand} {b : UInt8} {ds : TypeDesc} (hx : ev n env x = B8 b) (hs : P.underlying S = some ds) (ht : P.underlying T = some (.int .u32)) : Runs P w0 F0 L n env ⟨d, .convert S T x, ty, pos, af, gd⟩ (W32 b.toUInt32) :=
  r_int (r_conv_int hx hs ht) (by have := b.toNat_lt; rw [u32_wrap, UInt8.toNat_toUInt32]; omega)
theorem r_convw8 {S T : TypeId} {x : Operand} {a : UInt32} {ds : TypeDesc} (hx : ev n env x = W32 a) (hs : P.underlying S = some ds) (ht : P.underlying T = some (.int .u8)) : Runs P w0 F0 L n env ⟨d, .convert S T x, ty, pos, af, gd⟩ (B8 a.toUInt8) :=
  r_int (r_conv_int hx hs ht) (by
    have h1 : ∀ m : Int, IntKind.u8.wrap m = m % 256 := fun m => by simp [IntKind.wrap, IntKind.bits, IntKind.signed]
    rw [h1, UInt32.toNat_toUInt8]; omega)
theorem r_index1 {x y : Operand} {T e m s : Nat} {cs : List Value} {k : IntKind} {i : Int} {v : Value} (hx : ev n env x = .agg cs.toArray) (hy : ev n env y = .int k i) (ht : arrT P T = some (m, e)) (hs : szT P e = some s) (hr : rowT P e = some false)
    (h0 : 0 ≤ i) (hm : i < m) (hv : cs[i.toNat * s]? = some v) : Runs P w0 F0 L n env ⟨d, .index T x y, ty, pos, af, gd⟩ v := fun w _ => by
  simp only [execOp, hx, hy, Instr.index, asIntOf, Sem.run_bind, Sem.run_pure, Result.andThen_ok, run_underlying (run_arrT ht)]
  simp [h0, hm, run_sz hs, run_part1 hr hv]
theorem r_buildA {T e m s : Nat} {parts : Array (Nat × Operand)} {zs cs : List Value} (hz : zcT P T = some zs) (ht : arrT P T = some (m, e)) (hs : szT P e = some s)
    (hf : fillL (fun i => some (i * s, s)) zs (parts.toList.map fun p => (p.1, ev n env p.2)) = some cs) : Runs P w0 F0 L n env ⟨d, .build T parts, ty, pos, af, gd⟩ (.agg cs.toArray) := fun w _ => by
  obtain ⟨z, hz', hc⟩ := zcT_some hz
  have hf' : Instr.fill (fun i => some (i * s, s)) z.cells (parts.toList.map fun p => (p.1, ev n env p.2)) = some cs.toArray := fill_of _ _ _ _ (by rw [hc]; exact hf)
  have hcomp : (parts.map fun (i, x) => (i, ev n env x)).toList = parts.toList.map fun p => (p.1, ev n env p.2) := by simp
  simp only [execOp, Instr.build, Sem.run_bind, run_zeroT hz', Result.andThen_ok, run_underlying (run_arrT ht), run_sz hs, hcomp, hf']
  rfl
theorem r_ld1r {x : Operand} {T g o i e size m c : Nat} {xs : List Value} {L' : List Res} {v : Value} (hx : ev n env x = .pointer (some ⟨g, o + i, none⟩)) (hr : rowT P T = some false) (hp : Pick L (rowR e size (some ⟨g, o, none⟩) m c xs) L') (hv : xs[i]? = some v) :
    Runs P w0 F0 L n env ⟨d, .load T x, ty, pos, af, gd⟩ v := r_load hx fun w hs => run_loadVar_one hr (by
      have hm : 0 < m := by
        have hl := (hs.row hp).1
        have : i < xs.length := (List.getElem?_eq_some_iff.1 hv).1
        rcases Nat.eq_zero_or_pos m with h0 | h0
        · subst h0; simp at hl; subst hl; simp at this
        · exact h0
      obtain ⟨g', o', ha, _, _, hra⟩ := (hs.row hp).2.2 hm
      cases ha
      exact hra i v hv)
theorem ld_aggS {T g o T' m : Nat} {cs seg : List Value} {L' : List Res} (hr : rowT P T = some true) (hs : szT P T = some m) (hp : Pick L (blk g T' cs) L') (hg : (cs.drop o).take m = seg) (hl : seg.length = m) :
    ∀ w, St w0 F0 L w → (loadVar T ⟨g, o, none⟩).run P w = .ok (.agg seg.toArray) w := fun w hst => run_loadVar_agg hr hs hl fun j v hj => by
  rw [hst.cellOf hp, ← hj, ← hg, List.getElem?_take, List.getElem?_drop]
  rw [if_pos]
  rw [← hl]
  exact (List.getElem?_eq_some_iff.1 hj).1
theorem ld_oneS {T g o T' : Nat} {cs : List Value} {L' : List Res} {v : Value} (hr : rowT P T = some false) (hp : Pick L (blk g T' cs) L') (hv : cs[o]? = some v) :
    ∀ w, St w0 F0 L w → (loadVar T ⟨g, o, none⟩).run P w = .ok v w := fun w hs => run_loadVar_one hr ((hs.cellOf hp o).trans hv)
end
theorem stars_hd {R R' : Res} {L : List Res} {w : World} {F : Nat → Prop} (h : ∀ F, R.on w F → R'.on w F) : stars (R :: L) w F → stars (R' :: L) w F :=
  fun ⟨F1, F2, h1, h2, h3, h4⟩ => ⟨F1, F2, h F1 h1, h2, h3, h4⟩
theorem St.rowLe {w0 w : World} {F0 : Nat → Prop} {L L' : List Res} {e size a m c xs} (hs : St w0 F0 L w) (hp : Pick L (rowR e size a m c xs) L') : m ≤ c ∧ c ≤ maxLen := by
  obtain ⟨F, hF, _⟩ := hs
  obtain ⟨F1, h1, _⟩ := stars_pick hp hF
  exact ⟨h1.2.1, h1.2.2.1⟩
theorem RdRow.cut8 {w : World} {A : Nat → Prop} {n c l h : Nat} {a : Option Addr} {xs : List UInt8} (hr : RdRow w A 1 a n (xs.map B8)) (h1 : l ≤ h) (h2 : h ≤ n) (h3 : n ≤ c) :
    RdRow w A 1 (if c = l then a else a.map (·.add (l * 1))) (h - l) (((xs.drop l).take (h - l)).map B8) := by
  have := hr.cut h1 h2 h3
  rw [Nat.mul_one (h - l), show (List.map B8 xs).drop (l * 1) = (List.map B8 xs).drop l by rw [Nat.mul_one], ← List.map_drop, ← List.map_take] at this
  simpa only [Nat.mul_one] using this
theorem stars_tail8 {L : List Res} {w : World} {F : Nat → Prop} {e n c l : Nat} {a : Option Addr} {xs : List UInt8} (hl : l ≤ n) (h : stars (rowR e 1 a n c (xs.map B8) :: L) w F) :
    stars (rowR e 1 (if c = l then a else a.map (·.add (l * 1))) (n - l) (c - l) ((xs.drop l).map B8) :: L) w F := by
  refine stars_hd (fun F hF => ?_) h
  have hlen : n = xs.length := by have := hF.1; simp at this; omega
  have := rowR.cut hF hl (Nat.le_refl n)
  have e1 : ((List.map B8 xs).drop (l * 1)).take ((n - l) * 1) = (xs.drop l).map B8 := by
    rw [Nat.mul_one, Nat.mul_one, ← List.map_drop, List.take_of_length_le (by simp; omega)]
  rwa [e1] at this
def fnc {α : Type} (V : α → Value) (m : Nat) (f : Nat → α) : List Value := (List.range m).map fun j => V (f j)
theorem fnc_length {α : Type} {V : α → Value} {m : Nat} {f : Nat → α} : (fnc V m f).length = m := by simp [fnc]
theorem fnc_get {α : Type} {V : α → Value} {m j : Nat} {f : Nat → α} (h : j < m) : (fnc V m f)[j]? = some (V (f j)) := by simp [fnc, h]
theorem fnc_one {α : Type} {V : α → Value} (hV : ∀ x, (V x).oneCell' = true) {m : Nat} {f : Nat → α} : ∀ v ∈ fnc V m f, v.oneCell' = true := by
  intro v hv; simp only [fnc, List.mem_map] at hv; obtain ⟨j, _, rfl⟩ := hv; exact hV _
theorem fnc_upd {α : Type} {V : α → Value} {m i : Nat} {f f' : Nat → α} (h : i < m) (h1 : ∀ j, j < m → j ≠ i → f' j = f j) : updL (fnc V m f) i [V (f' i)] = fnc V m f' := by
  apply List.ext_getElem?
  intro j
  simp only [updL, List.length_singleton]
  by_cases hj : j < m
  · rw [fnc_get hj]
    rcases Nat.lt_trichotomy j i with h2 | h2 | h2
    · rw [List.getElem?_append_left (by simp [fnc]; omega), List.getElem?_take, if_pos h2, fnc_get hj, h1 j hj (by omega)]
    · subst h2
      rw [List.getElem?_append_right (by simp [fnc]; omega)]
      simp [fnc, show min j m = j by omega]
    · rw [List.getElem?_append_right (by simp [fnc]; omega), List.getElem?_append_right (by simp [fnc]; omega), List.getElem?_drop]
      have : i + 1 + (j - ((fnc V m f).take i).length - [V (f' i)].length) = j := by simp [fnc]; omega
      rw [this, fnc_get hj, h1 j hj (by omega)]
  · rw [List.getElem?_eq_none (by simp [fnc]; omega), List.getElem?_eq_none (by simp [fnc]; omega)]
theorem fnc_eq {α : Type} {V : α → Value} {m : Nat} {f f' : Nat → α} (h : ∀ j, j < m → f j = f' j) : fnc V m f = fnc V m f' := by
  apply List.map_congr_left; intro j hj; rw [h j (List.mem_range.1 hj)]
theorem fnc_const {α : Type} {V : α → Value} {m : Nat} {x : α} : fnc V m (fun _ => x) = List.replicate m (V x) := by
  apply List.ext_getElem?; intro j; simp [fnc, List.getElem?_replicate]; split <;> simp_all
def pfx {α : Type} (f g : Nat → α) (k j : Nat) : α := if j < k then f j else g j
theorem pfx_zero {α : Type} {V : α → Value} {m : Nat} {f g : Nat → α} : fnc V m (pfx f g 0) = fnc V m g := fnc_eq fun j _ => by simp [pfx]
theorem pfx_full {α : Type} {V : α → Value} {m : Nat} {f g : Nat → α} : fnc V m (pfx f g m) = fnc V m f := fnc_eq fun j h => by simp [pfx, h]
theorem pfx_set {α : Type} {V : α → Value} {m k o : Nat} {f g : Nat → α} {v : Value} (ho : o = k) (hk : k < m) (hv : v = V (f k)) : updL (fnc V m (pfx f g k)) o [v] = fnc V m (pfx f g (k + 1)) := by
  subst ho; subst hv
  have e : f o = pfx f g (o + 1) o := by simp [pfx]
  rw [e]
  exact fnc_upd hk fun j _ hj => by simp only [pfx]; by_cases h : j < o <;> simp [h] <;> (try split) <;> first | rfl | omega
theorem pfx_get {α : Type} {V : α → Value} {m k j o : Nat} {f g : Nat → α} (ho : o = j) (hj : j < k) (hm : j < m) : (fnc V m (pfx f g k))[o]? = some (V (f j)) := by
  subst ho; rw [fnc_get hm]; simp [pfx, hj]
theorem pfx_get2 {α : Type} {V : α → Value} {m k j o : Nat} {f g : Nat → α} (ho : o = j) (hj : k ≤ j) (hm : j < m) : (fnc V m (pfx f g k))[o]? = some (V (g j)) := by
  subst ho; rw [fnc_get hm]; simp [pfx, Nat.not_lt.2 hj]
theorem updL_left {cs tl vs : List Value} {o : Nat} (h : o + vs.length ≤ cs.length) : updL (cs ++ tl) o vs = updL cs o vs ++ tl := by
  simp only [updL]
  rw [List.take_append_of_le_length (by omega), List.drop_append_of_le_length (by omega)]
  simp
theorem get_left {cs tl : List Value} {o : Nat} {v : Value} (h : cs[o]? = some v) : (cs ++ tl)[o]? = some v := by
  rw [List.getElem?_append_left (List.getElem?_eq_some_iff.1 h).1]; exact h
theorem cellb {w : World} {g o : Nat} {b : List UInt8} (h : w.rangeAt g o (b.map B8)) {e j : Nat} (he : e = j) (hj : j < b.length) : w.cell? ⟨g, o + e, none⟩ = some (B8 (b.getD j 0)) := by
  subst he
  refine h e _ ?_
  rw [List.getElem?_map, List.getElem?_eq_getElem hj]
  simp [List.getD, List.getElem?_eq_getElem hj]
theorem byte_shrU {m j : Nat} {i : Int} (hi : i = (j : Int)) (hj : 8 * j < 64) : Value.int .u8 (IntKind.u8.wrap ((m : Int).fdiv (2 ^ (min (8 * i).toNat IntKind.u64.bits)))) = B8 (UInt8.ofNat (m / 2 ^ (8 * j))) := by
  subst hi
  have e : min (8 * (j : Int)).toNat IntKind.u64.bits = 8 * j := by simp only [IntKind.bits]; omega
  have h1 : ∀ m : Int, IntKind.u8.wrap m = m % 256 := fun m => by simp [IntKind.wrap, IntKind.bits, IntKind.signed]
  have h2 : (m : Int) / 2 ^ (8 * j) = ((m / 2 ^ (8 * j) : Nat) : Int) := by rw [Int.natCast_ediv, Int.natCast_pow]; rfl
  rw [e, Int.fdiv_eq_ediv_of_nonneg _ (by exact Int.le_of_lt (Int.pow_pos (by omega))), h2]
  simp only [B8, Value.int.injEq, true_and]
  rw [h1, UInt8.toNat_ofNat']; omega
theorem byte_shrI {m : Nat} {j : Nat} {i : Int} (hi : i = (j : Int)) (hj : j < 64) : Value.int .u8 (IntKind.u8.wrap ((m : Int).fdiv (2 ^ (min i.toNat IntKind.i64.bits)))) = B8 (UInt8.ofNat (m / 2 ^ j)) := by
  subst hi
  have e : min (j : Int).toNat IntKind.i64.bits = j := by simp only [IntKind.bits]; omega
  have h1 : ∀ m : Int, IntKind.u8.wrap m = m % 256 := fun m => by simp [IntKind.wrap, IntKind.bits, IntKind.signed]
  have h2 : (m : Int) / 2 ^ j = ((m / 2 ^ j : Nat) : Int) := by rw [Int.natCast_ediv, Int.natCast_pow]; rfl
  rw [e, Int.fdiv_eq_ediv_of_nonneg _ (by exact Int.le_of_lt (Int.pow_pos (by omega))), h2]
  simp only [B8, Value.int.injEq, true_and]
  rw [h1, UInt8.toNat_ofNat']; omega
theorem byte_int {m : Int} : Value.int .u8 (IntKind.u8.wrap m) = B8 (UInt8.ofNat (m % 256).toNat) := by
  have h1 : ∀ m : Int, IntKind.u8.wrap m = m % 256 := fun m => by simp [IntKind.wrap, IntKind.bits, IntKind.signed]
  simp only [B8, Value.int.injEq, true_and]
  rw [h1, UInt8.toNat_ofNat']; omega
theorem rot_and {n : Nat} (h1 : 1 ≤ n) (h2 : n ≤ 31) : bitop .and .u64 (IntKind.u64.wrap (-(n : Int))) 31 = ((32 - n : Nat) : Int) := by
  have h : ∀ m : Fin 31, bitop .and .u64 (IntKind.u64.wrap (-((m.val + 1 : Nat) : Int))) 31 = ((32 - (m.val + 1) : Nat) : Int) := by decide
  have := h ⟨n - 1, by omega⟩
  simp only [show n - 1 + 1 = n by omega] at this
  exact this
end
section
theorem run_eqItems8 {P : Program} {e : TypeId} {d : Nat} (he : P.underlying e = some (.int .u8)) (a b : List UInt8) (w : World) : ∀ (is : List Nat), (∀ i ∈ is, i < a.length ∧ i < b.length) →
    (Op.eqItems (d + 1) e 1 (a.map B8).toArray (b.map B8).toArray is).run P w = .ok (is.all fun i => a[i]? == b[i]?) w
  | [], _ => by simp [Op.eqItems]
  | i :: is, h => by
    obtain ⟨h1, h2⟩ := h i (by simp)
    have ih := run_eqItems8 (d := d) he a b w is (fun j hj => h j (by simp [hj]))
    have hr : rowT P e = some false := by simp [rowT, he]
    have p1 := run_part1 (P := P) (T := e) (off := i * 1) (cs := a.map B8) (v := B8 a[i]) hr (by simp [h1]) w
    have p2 := run_part1 (P := P) (T := e) (off := i * 1) (cs := b.map B8) (v := B8 b[i]) hr (by simp [h2]) w
    have p3 : (Op.equalIn (d + 1) e (B8 a[i]) (B8 b[i])).run P w = .ok (a[i] == b[i]) w := by
      rw [show B8 a[i] = .int .u8 (a[i].toNat : Int) from rfl, show B8 b[i] = .int .u8 (b[i].toNat : Int) from rfl, run_equalIn_int w d e .u8 .u8 _ _ he]
      congr 1
      rw [Bool.eq_iff_iff]; simp only [beq_iff_eq]
      exact ⟨fun hh => UInt8.toNat_inj.1 (by omega), fun hh => by rw [hh]⟩
    simp only [Op.eqItems, Sem.run_bind, p1, p2, p3, Result.andThen_ok]
    by_cases hab : a[i] = b[i]
    · simp [hab, ih, h1, h2]
    · simp [hab, h1, h2]
theorem all_range_eq {a b : List UInt8} {n : Nat} (ha : a.length = n) (hb : b.length = n) : ((List.range n).all fun i => a[i]? == b[i]?) = decide (a = b) := by
  rw [Bool.eq_iff_iff, List.all_eq_true]
  simp only [List.mem_range, beq_iff_eq, decide_eq_true_eq]
  refine ⟨fun h => List.ext_getElem? fun i => ?_, fun h i _ => by rw [h]⟩
  by_cases hi : i < n
  · exact h i hi
  · rw [List.getElem?_eq_none (by omega), List.getElem?_eq_none (by omega)]
theorem dig_dec (a b : Dig) : decide (a.l = b.l) = decide (a = b) := by
  by_cases h : a = b
  · simp [h]
  · simp [h]; exact fun e => h (Dig.ext' e)
def str (b : List UInt8) : ByteArray := ⟨b.toArray⟩
theorem str_toList (b : List UInt8) : (str b).toList = b := by rw [ByteArray.toList_eq]; rfl
theorem str_size (b : List UInt8) : (str b).size = b.length := by simp [str, ByteArray.size]
theorem str_push (s : List UInt8) : ∀ (b : List UInt8), (b.map fun x => (x.toNat : Int)).foldl (fun r n => r.push (UInt8.ofNat n.toNat)) (str s) = str (s ++ b)
  | [] => by simp
  | x :: b => by
    have h : (str s).push (UInt8.ofNat (x.toNat : Int).toNat) = str (s ++ [x]) := by
      rw [Int.toNat_natCast, UInt8.ofNat_toNat]
      simp [str, ByteArray.push]
    simp only [List.map_cons, List.foldl_cons, h]
    rw [str_push (s ++ [x]) b]; simp
section
variable {P : Program} {w0 : World} {F0 : Nat → Prop} {L : List Res} {Q : Exit → Act → World → Prop} {n : Fm} {env : Env} {ops : Array Oper} {rest : List Oper}
variable {d : Option Tmp} {ty : TypeId} {pos : String} {af : Array Edge} {gd : Option (Nat × Bool)}
theorem run_equal_dig {T e : TypeId} {w : World} {a b : Dig} (ht : arrT P T = some (16, e)) (he : P.underlying e = some (.int .u8)) (hs : szT P e = some 1) : (Op.equalIn 10000 T (.agg (dc a).toArray) (.agg (dc b).toArray)).run P w = .ok (decide (a = b)) w := by
  cases hi : P.info? e with
  | none => simp [szT, hi] at hs
  | some i =>
    have hz : i.size = 1 := by simpa [szT, hi] using hs
    have hc : P.cellsOf e = 1 := by simp [Program.cellsOf, hi, hz]
    rw [run_equalIn_array w 9999 _ _ (run_arrT ht) hi, hc]
    rw [show dc a = a.l.map B8 from rfl, show dc b = b.l.map B8 from rfl, run_eqItems8 (d := 9998) he a.l b.l w _ (fun i hi => by have := List.mem_range.1 hi; rw [a.h, b.h]; omega), all_range_eq a.h b.h, dig_dec]
theorem r_eql_dig {x y : Operand} {T T' e : TypeId} {a b : Dig} (hx : ev n env x = .agg (dc a).toArray) (hy : ev n env y = .agg (dc b).toArray) (ht : arrT P T = some (16, e)) (he : P.underlying e = some (.int .u8)) (hs : szT P e = some 1) (hg : P.eqGuardType P.depth T = false) :
    Runs P w0 F0 L n env ⟨d, .binOp .eql T x y T', ty, pos, af, gd⟩ (.bool (decide (a = b))) := fun w _ => by
  simp only [execOp, hx, hy, Sem.run_bind, run_eqGuard_agg w _ _ _ _ _ _ hg, Result.andThen_ok, run_eql_struct, run_equal_dig ht he hs, Sem.run_pure]
theorem r_neq_dig {x y : Operand} {T T' e : TypeId} {a b : Dig} (hx : ev n env x = .agg (dc a).toArray) (hy : ev n env y = .agg (dc b).toArray) (ht : arrT P T = some (16, e)) (he : P.underlying e = some (.int .u8)) (hs : szT P e = some 1) (hg : P.eqGuardType P.depth T = false) :
    Runs P w0 F0 L n env ⟨d, .binOp .neq T x y T', ty, pos, af, gd⟩ (.bool (!decide (a = b))) := fun w _ => by
  simp only [execOp, hx, hy, Sem.run_bind, run_eqGuard_agg w _ _ _ _ _ _ hg, Result.andThen_ok, run_neq_struct, run_equal_dig ht he hs, Sem.run_pure]
theorem r_neq_str {x y : Operand} {T T' : TypeId} {a b : List UInt8} (hx : ev n env x = .string (str a)) (hy : ev n env y = .string (str b)) :
    Runs P w0 F0 L n env ⟨d, .binOp .neq T x y T', ty, pos, af, gd⟩ (.bool (!decide (a = b))) := fun w _ => by
  simp only [execOp, hx, hy]
  simp [eqGuard, binOp_string_neq, str_toList]
  by_cases h : a = b <;> simp [h]
theorem r_str {x : Operand} {S T e : TypeId} {a : Option Addr} {m c : Nat} {b : List UInt8} (hx : ev n env x = .slice a m c) (hs : sliceT P S = some e) (he : P.underlying e = some (.int .u8)) (hd : P.underlying T = some .string)
    (hr : ∀ w, St w0 F0 L w → RdRow w (fun _ => True) 1 a m (b.map B8)) : Runs P w0 F0 L n env ⟨d, .convert S T x, ty, pos, af, gd⟩ (.string (str b)) := fun w hw => by
  have h := hr w hw
  have hl : m = b.length := by have := h.1; simp at this; omega
  have hgo : (Conv.bytesToString (.slice a m c)).run P w = .ok (.string (str b)) w := by
    cases a with
    | none =>
      have hm : m = 0 := by
        rcases Nat.eq_zero_or_pos m with h0 | h0
        · exact h0
        · obtain ⟨_, _, ha, _⟩ := h.2.2 h0; cases ha
      have hb : b = [] := List.eq_nil_of_length_eq_zero (by omega)
      subst hb
      simp [Conv.bytesToString]; rfl
    | some p =>
      have hload : (loadCells p m).run P w = .ok ((b.map fun x => (x.toNat : Int)).map (Value.int .u8)).toArray w := by
        have e1 : (b.map fun x => (x.toNat : Int)).map (Value.int .u8) = b.map B8 := by simp [B8, Function.comp_def]
        rw [e1]
        have hl2 : m = (b.map B8).length := by simpa using hl
        rw [hl2]
        rcases Nat.eq_zero_or_pos m with h0 | h0
        · have hb : b = [] := List.eq_nil_of_length_eq_zero (by omega)
          subst hb
          exact run_loadCells_list (P := P) w p [] (fun j v hv => by simp at hv)
        · obtain ⟨g, o, ha, _, _, hra⟩ := h.2.2 h0
          cases ha
          exact run_loadCells_list (P := P) w _ _ (fun j v hv => by rw [Addr.add_mid]; exact hra j v hv)
      rw [run_bytesToString w p m c _ hload]
      have := str_push [] b
      simp only [List.nil_append] at this
      rw [← this]; rfl
  simp only [execOp, hx, run_convert_bytes_string w _ _ _ _ _ _ (run_sliceT hs) he hd, hgo, Sem.run_bind, Result.andThen_ok, Sem.run_pure]
end
end
section
class Len (l : List Value) (n : outParam Nat) : Prop where h : l.length = n
theorem Len.of {l : List Value} {n : Nat} (h : l.length = n) : Len l n := ⟨h⟩
instance {d : Dig} : Len (dc d) 16 := ⟨dc_length d⟩
instance : Len zD 16 := ⟨zD_length⟩
instance {α : Type} {V : α → Value} {m : Nat} {f : Nat → α} : Len (fnc V m f) m := ⟨fnc_length⟩
class One (l : List Value) : Prop where h : ∀ v ∈ l, v.oneCell' = true
theorem One.of {l : List Value} (h : ∀ v ∈ l, v.oneCell' = true) : One l := ⟨h⟩
class One1 (v : Value) : Prop where h : v.oneCell' = true
theorem len_L {l : List Value} {n : Nat} [Len l n] : l.length = n := Len.h
theorem drop_L {q r : List Value} {m k : Nat} [h : Len q m] (hk : m ≤ k) : List.drop k (q ++ r) = List.drop (k - m) r := drop_q h.h hk
theorem drop_L' {q : List Value} {m k : Nat} [h : Len q m] (hk : m ≤ k) : List.drop k q = [] := drop_q' h.h hk
theorem take_L {q r : List Value} {m k : Nat} [h : Len q m] (hk : m ≤ k) : List.take k (q ++ r) = q ++ List.take (k - m) r := take_q h.h hk
theorem take_L' {q : List Value} {m k : Nat} [h : Len q m] (hk : m ≤ k) : List.take k q = q := take_q' h.h hk
theorem get_L {q r : List Value} {m k : Nat} [h : Len q m] (hk : m ≤ k) : (q ++ r)[k]? = r[k - m]? := get_q h.h hk
section
variable {P : Program} {w0 : World} {F0 : Nat → Prop} {L : List Res} {Q : Exit → Act → World → Prop} {n : Fm} {env : Env} {ops : Array Oper} {rest : List Oper}
variable {d : Option Tmp} {t : Tmp} {op : Op} {ty : TypeId} {pos : String} {af : Array Edge} {gd : Option (Nat × Bool)} {v : Value}
theorem gp (h : Runs P w0 F0 L n env ⟨some t, op, ty, pos, af, gd⟩ v) (k : Gl P w0 F0 L ops Q rest n ((t, v) :: env)) (hw : Wt ops n env ⟨some t, op, ty, pos, af, gd⟩ true := by exact wt0 rfl) : Gl P w0 F0 L ops Q (⟨some t, op, ty, pos, af, gd⟩ :: rest) n env := gl_pure hw h k
theorem gq (h : Runs P w0 F0 L n env ⟨some t, op, ty, pos, af, gd⟩ v) (k : Gl P w0 F0 L ops Q rest n ((t, v) :: env)) (hw : Wt ops n env ⟨some t, op, ty, pos, af, gd⟩ true := by exact wtgT rfl rfl rfl rfl) : Gl P w0 F0 L ops Q (⟨some t, op, ty, pos, af, gd⟩ :: rest) n env := gl_pure hw h k
theorem gn (k : Gl P w0 F0 L ops Q rest n ((t, undef) :: env)) (hw : Wt ops n env ⟨some t, op, ty, pos, af, gd⟩ false := by first | exact wtgF rfl rfl rfl rfl rfl | exact wtu rfl rfl rfl rfl) : Gl P w0 F0 L ops Q (⟨some t, op, ty, pos, af, gd⟩ :: rest) n env := gl_passD hw k
theorem sp {C : Env → Prop} (h : Runs P w0 F0 L n env ⟨some t, op, ty, pos, af, gd⟩ v) (k : Gs P w0 F0 L ops rest n ((t, v) :: env) C) (hw : Wt ops n env ⟨some t, op, ty, pos, af, gd⟩ true := by exact wt0 rfl) : Gs P w0 F0 L ops (⟨some t, op, ty, pos, af, gd⟩ :: rest) n env C := gs_pure hw h k
theorem sq {C : Env → Prop} (h : Runs P w0 F0 L n env ⟨some t, op, ty, pos, af, gd⟩ v) (k : Gs P w0 F0 L ops rest n ((t, v) :: env) C) (hw : Wt ops n env ⟨some t, op, ty, pos, af, gd⟩ true := by exact wtgT rfl rfl rfl rfl) : Gs P w0 F0 L ops (⟨some t, op, ty, pos, af, gd⟩ :: rest) n env C := gs_pure hw h k
theorem sn {C : Env → Prop} (k : Gs P w0 F0 L ops rest n ((t, undef) :: env) C) (hw : Wt ops n env ⟨some t, op, ty, pos, af, gd⟩ false := by first | exact wtgF rfl rfl rfl rfl rfl | exact wtu rfl rfl rfl rfl) : Gs P w0 F0 L ops (⟨some t, op, ty, pos, af, gd⟩ :: rest) n env C := gs_passD hw k
theorem gsr {id : Nat} {l : List Oper} {y : Code} (h : Gl P w0 F0 L l.toArray (Exit.then (cwp n P y Q) Q) l n env) : Gc P w0 F0 L (.seq (.region id l.toArray false) y) Q n env := gc_seq (gc_region h)
theorem gnt {y : Code} {Q' : Exit → Act → World → Prop} (h : Gc P w0 F0 L y Q n env) : Gl P w0 F0 L ops (Exit.then (cwp n P y Q) Q') [] n env := gl_nil (gx_then h)
theorem zmv {x : Operand} (hx : ev n env x = v := by conv => lhs; whnf) : Runs P w0 F0 L n env ⟨d, .move x, ty, pos, af, gd⟩ v := r_move hx
theorem zas {x : Operand} (hx : ev n env x = v := by conv => lhs; whnf) : Runs P w0 F0 L n env ⟨d, .assign x, ty, pos, af, gd⟩ v := r_assign hx
theorem ldA {T g o T' m : Nat} {cs seg : List Value} {L' : List Res} (hr : rowT P T = some true) (hs : szT P T = some m) (hp : Pick L (blk g T' cs) L' := by repeat (first | exact Pick.here | apply Pick.there)) (hg : (cs.drop o).take m = seg := by (simp only [List.drop_succ_cons, List.drop_zero, List.take_succ_cons, List.take_zero, List.cons_append, List.nil_append, List.append_assoc, drop_dc, drop_dc', take_dc, take_dc', drop_L, drop_L', take_L, take_L', len_L, Nat.reduceLeDiff, Nat.reduceSub, Nat.reduceAdd, Nat.le_refl, List.length_cons, List.length_append, List.length_nil, dc_length, List.drop_nil, List.take_nil, List.append_nil, List.length_map, List.length_replicate]; first | done | rfl)) (hl : seg.length = m := by first | rfl | (simp only [List.drop_succ_cons, List.drop_zero, List.take_succ_cons, List.take_zero, List.cons_append, List.nil_append, List.append_assoc, drop_dc, drop_dc', take_dc, take_dc', drop_L, drop_L', take_L, take_L', len_L, Nat.reduceLeDiff, Nat.reduceSub, Nat.reduceAdd, Nat.le_refl, List.length_cons, List.length_append, List.length_nil, dc_length, List.drop_nil, List.take_nil, List.append_nil, List.length_map, List.length_replicate]; first | done | omega)) : ∀ w, St w0 F0 L w → (loadVar T ⟨g, o, none⟩).run P w = .ok (.agg seg.toArray) w := ld_aggS hr hs hp hg hl
theorem ldO {T g o T' : Nat} {cs : List Value} {L' : List Res} {v : Value} (hr : rowT P T = some false) (hp : Pick L (blk g T' cs) L' := by repeat (first | exact Pick.here | apply Pick.there)) (hv : cs[o]? = some v := by first | rfl | (simp only [List.getElem?_cons_succ, List.getElem?_cons_zero, List.cons_append, List.append_assoc, get_dc, get_L, Nat.reduceLeDiff, Nat.reduceSub, Nat.reduceAdd, Nat.le_refl]; rfl)) : ∀ w, St w0 F0 L w → (loadVar T ⟨g, o, none⟩).run P w = .ok v w := ld_oneS hr hp hv
theorem gc_cz {c : Code} {L' M N : List Res} (hc : ∀ w F, stars M w F → stars N w F) (k : Gc P w0 F0 (N ++ L') c Q n env) (hs : Sel L M L' := by repeat (first | exact Sel.nil | (apply Sel.cons; · (repeat (first | exact Pick.here | apply Pick.there))))) : Gc P w0 F0 L c Q n env := gc_conv hs hc k
theorem gl_cz {L' M N : List Res} (hc : ∀ w F, stars M w F → stars N w F) (k : Gl P w0 F0 (N ++ L') ops Q rest n env) (hs : Sel L M L' := by repeat (first | exact Sel.nil | (apply Sel.cons; · (repeat (first | exact Pick.here | apply Pick.there))))) : Gl P w0 F0 L ops Q rest n env := gl_conv hs hc k
theorem St.cz {w0 : World} {F0 : Nat → Prop} {L L' M N : List Res} {w : World} (h : St w0 F0 L w) (hc : ∀ w F, stars M w F → stars N w F) (hs : Sel L M L' := by repeat (first | exact Sel.nil | (apply Sel.cons; · (repeat (first | exact Pick.here | apply Pick.there))))) : St w0 F0 (N ++ L') w := h.conv hs hc
theorem zxs {id : Nat} {l : List Oper} {y : Code} {Q' : Exit → Act → World → Prop} (h : Gl P w0 F0 L l.toArray (Exit.then (cwp n P y Q) Q) l n env) : Gl P w0 F0 L ops (Exit.then (cwp n P (.seq (.region id l.toArray false) y) Q) Q') [] n env := gnt (gsr h)
theorem zxm {x : Operand} (k : Gl P w0 F0 L ops Q rest n ((t, v) :: env)) (hx : ev n env x = v := by conv => lhs; whnf) (hw : Wt ops n env ⟨some t, .move x, ty, pos, af, gd⟩ true := by exact wt0 rfl) : Gl P w0 F0 L ops Q (⟨some t, .move x, ty, pos, af, gd⟩ :: rest) n env := gp (zmv hx) k hw
theorem zxa {x : Operand} (k : Gl P w0 F0 L ops Q rest n ((t, v) :: env)) (hx : ev n env x = v := by conv => lhs; whnf) (hw : Wt ops n env ⟨some t, .assign x, ty, pos, af, gd⟩ true := by exact wt0 rfl) : Gl P w0 F0 L ops Q (⟨some t, .assign x, ty, pos, af, gd⟩ :: rest) n env := gp (zas hx) k hw
theorem zpk {c x y : Operand} {b : Bool} (hc : ev n env c = .bool b := by exact rfl) (hv : (bif b then ev n env x else ev n env y) = v := by conv => lhs; whnf) : Runs P w0 F0 L n env ⟨d, .pick c x y, ty, pos, af, gd⟩ v := r_pick hc hv
theorem znc {x : Operand} {a : Addr} (hx : ev n env x = .pointer (some a) := by exact rfl) : Runs P w0 F0 L n env ⟨d, .nilCheck x, ty, pos, af, gd⟩ (.pointer (some a)) := r_nilCheck hx
theorem znt {x : Operand} {T : TypeId} {b : Bool} (hx : ev n env x = .bool b := by exact rfl) : Runs P w0 F0 L n env ⟨d, .unOp .not T x, ty, pos, af, gd⟩ (.bool (!b)) := r_not hx
theorem zex {x : Operand} {i : Nat} {vs : Array Value} (hx : ev n env x = .tuple vs := by exact rfl) (hv : vs[i]? = some v := by exact rfl) : Runs P w0 F0 L n env ⟨d, .extract x i, ty, pos, af, gd⟩ v := r_extract hx hv
theorem zmf {f : Fn} {cs : List Operand} {us : List Value} (hc : cs.map (ev n env) = us := by exact rfl) : Runs P w0 F0 L n env ⟨d, .makeFunc f #[] cs.toArray, ty, pos, af, gd⟩ (.func f #[] us.toArray) := r_makeF hc
theorem zad {x y : Operand} {T T' : TypeId} {k : IntKind} {i j m : Int} (hx : ev n env x = .int k i := by exact rfl) (hy : ev n env y = .int k j := by exact rfl) (h : k.wrap (i + j) = m := by first | exact wrap_i64 (by omega) (by omega) | exact rfl) : Runs P w0 F0 L n env ⟨d, .binOp .add T x y T', ty, pos, af, gd⟩ (.int k m) := r_arith (op := .add) hx hy h
theorem zsb {x y : Operand} {T T' : TypeId} {k : IntKind} {i j m : Int} (hx : ev n env x = .int k i := by exact rfl) (hy : ev n env y = .int k j := by exact rfl) (h : k.wrap (i - j) = m := by first | exact wrap_i64 (by omega) (by omega) | exact rfl) : Runs P w0 F0 L n env ⟨d, .binOp .sub T x y T', ty, pos, af, gd⟩ (.int k m) := r_arith (op := .sub) hx hy h
theorem zml {x y : Operand} {T T' : TypeId} {k : IntKind} {i j m : Int} (hx : ev n env x = .int k i := by exact rfl) (hy : ev n env y = .int k j := by exact rfl) (h : k.wrap (i * j) = m := by first | exact wrap_i64 (by omega) (by omega) | exact rfl) : Runs P w0 F0 L n env ⟨d, .binOp .mul T x y T', ty, pos, af, gd⟩ (.int k m) := r_arith (op := .mul) hx hy h
theorem zlt {x y : Operand} {T T' : TypeId} {k : IntKind} {i j : Int} (hx : ev n env x = .int k i := by exact rfl) (hy : ev n env y = .int k j := by exact rfl) : Runs P w0 F0 L n env ⟨d, .binOp .lss T x y T', ty, pos, af, gd⟩ (.bool (decide (i < j))) := r_lss hx hy
theorem zle {x y : Operand} {T T' : TypeId} {k : IntKind} {i j : Int} (hx : ev n env x = .int k i := by exact rfl) (hy : ev n env y = .int k j := by exact rfl) : Runs P w0 F0 L n env ⟨d, .binOp .leq T x y T', ty, pos, af, gd⟩ (.bool (decide (i ≤ j))) := r_leq hx hy
theorem zgt {x y : Operand} {T T' : TypeId} {k : IntKind} {i j : Int} (hx : ev n env x = .int k i := by exact rfl) (hy : ev n env y = .int k j := by exact rfl) : Runs P w0 F0 L n env ⟨d, .binOp .gtr T x y T', ty, pos, af, gd⟩ (.bool (decide (j < i))) := r_gtr hx hy
theorem zge {x y : Operand} {T T' : TypeId} {k : IntKind} {i j : Int} (hx : ev n env x = .int k i := by exact rfl) (hy : ev n env y = .int k j := by exact rfl) : Runs P w0 F0 L n env ⟨d, .binOp .geq T x y T', ty, pos, af, gd⟩ (.bool (decide (j ≤ i))) := r_geq hx hy
theorem zei {x y : Operand} {T T' : TypeId} {k : IntKind} {i j : Int} (hx : ev n env x = .int k i := by exact rfl) (hy : ev n env y = .int k j := by exact rfl) : Runs P w0 F0 L n env ⟨d, .binOp .eql T x y T', ty, pos, af, gd⟩ (.bool (decide (i = j))) := r_eql_int hx hy
theorem zni {x y : Operand} {T T' : TypeId} {k : IntKind} {i j : Int} (hx : ev n env x = .int k i := by exact rfl) (hy : ev n env y = .int k j := by exact rfl) : Runs P w0 F0 L n env ⟨d, .binOp .neq T x y T', ty, pos, af, gd⟩ (.bool (!decide (i = j))) := r_neq_int hx hy
theorem zbt {b : BinOp} {x y : Operand} {T T' : TypeId} {k : IntKind} {i j : Int} (hop : (match b with | .and | .or | .xor | .andNot => true | _ => false) = true := by exact rfl) (hx : ev n env x = .int k i := by exact rfl) (hy : ev n env y = .int k j := by exact rfl) : Runs P w0 F0 L n env ⟨d, .binOp b T x y T', ty, pos, af, gd⟩ (.int k (bitop b k i j)) := r_bits hop hx hy
theorem zhl {x y : Operand} {T T' : TypeId} {k k' : IntKind} {i j : Int} (hx : ev n env x = .int k i := by exact rfl) (hy : ev n env y = .int k' j := by exact rfl) (hj : 0 ≤ j := by omega) : Runs P w0 F0 L n env ⟨d, .binOp .shl T x y T', ty, pos, af, gd⟩ (.int k (k.wrap (i * 2 ^ (min j.toNat k.bits)))) := r_shl hx hy hj
theorem zhr {x y : Operand} {T T' : TypeId} {k k' : IntKind} {i j : Int} (hx : ev n env x = .int k i := by exact rfl) (hy : ev n env y = .int k' j := by exact rfl) (hj : 0 ≤ j := by omega) : Runs P w0 F0 L n env ⟨d, .binOp .shr T x y T', ty, pos, af, gd⟩ (.int k (i.fdiv (2 ^ (min j.toNat k.bits)))) := r_shr hx hy hj
theorem zqu {x y : Operand} {T T' : TypeId} {k : IntKind} {i j : Int} (hx : ev n env x = .int k i := by exact rfl) (hy : ev n env y = .int k j := by exact rfl) (hj : j ≠ 0 := by omega) : Runs P w0 F0 L n env ⟨d, .binOp .quo T x y T', ty, pos, af, gd⟩ (.int k (k.wrap (i.tdiv j))) := r_quo hx hy hj
theorem zrm {x y : Operand} {T T' : TypeId} {k : IntKind} {i j : Int} (hx : ev n env x = .int k i := by exact rfl) (hy : ev n env y = .int k j := by exact rfl) (hj : j ≠ 0 := by omega) : Runs P w0 F0 L n env ⟨d, .binOp .rem T x y T', ty, pos, af, gd⟩ (.int k (i.tmod j)) := r_rem hx hy hj
theorem zci {S T : TypeId} {x : Operand} {k k' : IntKind} {i : Int} {ds : TypeDesc} [UNT P S ds] [UNT P T (.int k')] (hx : ev n env x = .int k i := by exact rfl) : Runs P w0 F0 L n env ⟨d, .convert S T x, ty, pos, af, gd⟩ (.int k' (k'.wrap i)) := r_conv_int hx UNT.h UNT.h
theorem zln {x : Operand} {T e : TypeId} {a : Option Addr} {m c : Nat} [SLT P T e] (hx : ev n env x = .slice a m c := by exact rfl) : Runs P w0 F0 L n env ⟨d, .call ⟨.builtin .len, #[x], #[T]⟩, ty, pos, af, gd⟩ (.int .i64 m) := r_len_slice hx SLT.h
theorem zfa {x : Operand} {s f g o k : Nat} [FO P s f k] (hx : ev n env x = .pointer (some ⟨g, o, none⟩) := by exact rfl) : Runs P w0 F0 L n env ⟨d, .fieldAddr s x f, ty, pos, af, gd⟩ (.pointer (some ⟨g, o + k, none⟩)) := r_fieldAddr hx FO.h
theorem zia {x y : Operand} {T e g o m c s : Nat} {k : IntKind} {i : Int} [SLT P T e] [SZ P e s] (hx : ev n env x = .slice (some ⟨g, o, none⟩) m c := by exact rfl) (hy : ev n env y = .int k i := by exact rfl) (h0 : 0 ≤ i := by omega) (hm : i < m := by omega) : Runs P w0 F0 L n env ⟨d, .indexAddr T x y, ty, pos, af, gd⟩ (.pointer (some ⟨g, o + i.toNat * s, none⟩)) := r_indexAddr_slice hx hy SLT.h SZ.h h0 hm
theorem zib {x y : Operand} {T e g o m s : Nat} {k : IntKind} {i : Int} [ART P T m e] [SZ P e s] (hx : ev n env x = .pointer (some ⟨g, o, none⟩) := by exact rfl) (hy : ev n env y = .int k i := by exact rfl) (h0 : 0 ≤ i := by omega) (hm : i < m := by omega) : Runs P w0 F0 L n env ⟨d, .indexAddr T x y, ty, pos, af, gd⟩ (.pointer (some ⟨g, o + i.toNat * s, none⟩)) := r_indexAddr_arr hx hy ART.h SZ.h h0 hm
theorem zl {x : Operand} {T g o T' : Nat} {cs : List Value} {L' : List Res} [RO P T] (hx : ev n env x = .pointer (some ⟨g, o, none⟩) := by exact rfl) (hp : Pick L (blk g T' cs) L' := by repeat (first | exact Pick.here | apply Pick.there)) (hv : cs[o]? = some v := by first | exact rfl | (simp only [List.getElem?_cons_succ, List.getElem?_cons_zero, List.cons_append, List.append_assoc, get_dc, get_L, Nat.reduceLeDiff, Nat.reduceSub, Nat.reduceAdd, Nat.le_refl]; exact rfl)) : Runs P w0 F0 L n env ⟨d, .load T x, ty, pos, af, gd⟩ v := r_ld1 hx RO.h hp hv
theorem zL {x : Operand} {T g o T' m : Nat} {cs sg : List Value} {L' : List Res} [RA P T] [SZ P T m] (hx : ev n env x = .pointer (some ⟨g, o, none⟩) := by exact rfl) (hp : Pick L (blk g T' cs) L' := by repeat (first | exact Pick.here | apply Pick.there)) (hg : (cs.drop o).take m = sg := by (simp only [List.drop_succ_cons, List.drop_zero, List.take_succ_cons, List.take_zero, List.cons_append, List.nil_append, List.append_assoc, drop_dc, drop_dc', take_dc, take_dc', drop_L, drop_L', take_L, take_L', Nat.reduceLeDiff, Nat.reduceSub, Nat.reduceAdd, Nat.le_refl, List.length_cons, List.length_append, List.length_nil, dc_length, len_L, List.drop_nil, List.take_nil, List.append_nil, List.length_map, List.length_replicate]; first | done | exact rfl)) (hl : sg.length = m := by first | exact rfl | (simp only [List.drop_succ_cons, List.drop_zero, List.take_succ_cons, List.take_zero, List.cons_append, List.nil_append, List.append_assoc, drop_dc, drop_dc', take_dc, take_dc', drop_L, drop_L', take_L, take_L', Nat.reduceLeDiff, Nat.reduceSub, Nat.reduceAdd, Nat.le_refl, List.length_cons, List.length_append, List.length_nil, dc_length, len_L, List.drop_nil, List.take_nil, List.append_nil, List.length_map, List.length_replicate]; first | done | omega)) : Runs P w0 F0 L n env ⟨d, .load T x, ty, pos, af, gd⟩ (.agg sg.toArray) := r_ldN hx RA.h SZ.h hp hg hl
theorem zLa {x : Operand} {T g T' m : Nat} {cs : List Value} {L' : List Res} [RA P T] [SZ P T m] (hx : ev n env x = .pointer (some ⟨g, 0, none⟩) := by exact rfl) (hp : Pick L (blk g T' cs) L' := by repeat (first | exact Pick.here | apply Pick.there)) (hl : cs.length = m := by first | exact rfl | (simp only [List.drop_succ_cons, List.drop_zero, List.take_succ_cons, List.take_zero, List.cons_append, List.nil_append, List.append_assoc, drop_dc, drop_dc', take_dc, take_dc', drop_L, drop_L', take_L, take_L', Nat.reduceLeDiff, Nat.reduceSub, Nat.reduceAdd, Nat.le_refl, List.length_cons, List.length_append, List.length_nil, dc_length, len_L, List.drop_nil, List.take_nil, List.append_nil, List.length_map, List.length_replicate]; first | done | omega)) : Runs P w0 F0 L n env ⟨d, .load T x, ty, pos, af, gd⟩ (.agg cs.toArray) := r_ldN hx RA.h SZ.h hp (seg_all hl) hl
theorem zwa {x y : Operand} {T T' : TypeId} {a b : UInt32} (hx : ev n env x = W32 a := by exact rfl) (hy : ev n env y = W32 b := by exact rfl) : Runs P w0 F0 L n env ⟨d, .binOp .add T x y T', ty, pos, af, gd⟩ (W32 (a + b)) := r_addw hx hy
theorem zwn {x y : Operand} {T T' : TypeId} {a b : UInt32} (hx : ev n env x = W32 a := by exact rfl) (hy : ev n env y = W32 b := by exact rfl) : Runs P w0 F0 L n env ⟨d, .binOp .and T x y T', ty, pos, af, gd⟩ (W32 (a &&& b)) := r_andw hx hy
theorem zwo {x y : Operand} {T T' : TypeId} {a b : UInt32} (hx : ev n env x = W32 a := by exact rfl) (hy : ev n env y = W32 b := by exact rfl) : Runs P w0 F0 L n env ⟨d, .binOp .or T x y T', ty, pos, af, gd⟩ (W32 (a ||| b)) := r_orw hx hy
theorem zwx {x y : Operand} {T T' : TypeId} {a b : UInt32} (hx : ev n env x = W32 a := by exact rfl) (hy : ev n env y = W32 b := by exact rfl) : Runs P w0 F0 L n env ⟨d, .binOp .xor T x y T', ty, pos, af, gd⟩ (W32 (a ^^^ b)) := r_xorw hx hy
theorem zwc {T : TypeId} {x : Operand} {a : UInt32} (hx : ev n env x = W32 a := by exact rfl) : Runs P w0 F0 L n env ⟨d, .unOp .xor T x, ty, pos, af, gd⟩ (W32 (~~~a)) := r_notw hx
theorem zed {x y : Operand} {T T' e : TypeId} {a b : Dig} [ART P T 16 e] [UNT P e (.int .u8)] [SZ P e 1] (hx : ev n env x = .agg (dc a).toArray := by exact rfl) (hy : ev n env y = .agg (dc b).toArray := by exact rfl) (hg : P.eqGuardType P.depth T = false := by kernel_rfl) : Runs P w0 F0 L n env ⟨d, .binOp .eql T x y T', ty, pos, af, gd⟩ (.bool (decide (a = b))) := r_eql_dig hx hy ART.h UNT.h SZ.h hg
theorem znd {x y : Operand} {T T' e : TypeId} {a b : Dig} [ART P T 16 e] [UNT P e (.int .u8)] [SZ P e 1] (hx : ev n env x = .agg (dc a).toArray := by exact rfl) (hy : ev n env y = .agg (dc b).toArray := by exact rfl) (hg : P.eqGuardType P.depth T = false := by kernel_rfl) : Runs P w0 F0 L n env ⟨d, .binOp .neq T x y T', ty, pos, af, gd⟩ (.bool (!decide (a = b))) := r_neq_dig hx hy ART.h UNT.h SZ.h hg
theorem zns {x y : Operand} {T T' : TypeId} {a b : List UInt8} (hx : ev n env x = .string (str a) := by exact rfl) (hy : ev n env y = .string (str b) := by exact rfl) : Runs P w0 F0 L n env ⟨d, .binOp .neq T x y T', ty, pos, af, gd⟩ (.bool (!decide (a = b))) := r_neq_str hx hy
theorem zen {x : Operand} {T T' e : TypeId} {a : Option Addr} {m c : Nat} [SLT P T e] (hx : ev n env x = .slice a m c := by exact rfl) : Runs P w0 F0 L n env ⟨d, .binOp .eql T x (.const (.slice none 0 0)) T', ty, pos, af, gd⟩ (.bool a.isNone) := r_eqnil_sl hx SLT.h
theorem cells_one {v : Value} [h : One1 v] : v.cells.toList = [v] := by have := h.h; cases v <;> first | rfl | (simp [Value.oneCell'] at this)
theorem fillL_cons {place : Nat → Option (Nat × Nat)} {cs cs' new out : List Value} {i o s : Nat} {u u' : Value} {r : List (Nat × Value)} (hp : place i = some (o, s)) (h0 : u = u') (hv : u'.cells.toList = new) (hl : new.length = s) (hle : o + s ≤ cs.length) (hu : updL cs o new = cs') (k : fillL place cs' r = some out) : fillL place cs ((i, u) :: r) = some out := by
  subst h0
  simp only [fillL, hp]
  rw [hv, if_pos ⟨hl, by rw [hl]; exact hle⟩, hu]; exact k
theorem zbu {T : TypeId} {parts : Array (Nat × Operand)} {zs cs : List Value} {pl : List (Nat × Nat)} [ZC P T zs] [PLT P T pl] (hf : fillL (pl[·]?) zs (parts.toList.map fun p => (p.1, ev n env p.2)) = some cs := by first | exact rfl | ((repeat (apply fillL_cons rfl (by conv => lhs; whnf) (by first | (simp only [Value.cells, List.toList_toArray]; first | done | exact rfl) | exact cells_one) (by first | exact rfl | (simp only [List.drop_succ_cons, List.drop_zero, List.take_succ_cons, List.take_zero, List.cons_append, List.nil_append, List.append_assoc, drop_dc, drop_dc', take_dc, take_dc', drop_L, drop_L', take_L, take_L', Nat.reduceLeDiff, Nat.reduceSub, Nat.reduceAdd, Nat.le_refl, List.length_cons, List.length_append, List.length_nil, dc_length, len_L, List.drop_nil, List.take_nil, List.append_nil, List.length_map, List.length_replicate]; first | done | omega)) (by first | exact rfl | (simp only [List.drop_succ_cons, List.drop_zero, List.take_succ_cons, List.take_zero, List.cons_append, List.nil_append, List.append_assoc, drop_dc, drop_dc', take_dc, take_dc', drop_L, drop_L', take_L, take_L', Nat.reduceLeDiff, Nat.reduceSub, Nat.reduceAdd, Nat.le_refl, List.length_cons, List.length_append, List.length_nil, dc_length, len_L, List.drop_nil, List.take_nil, List.append_nil, List.length_map, List.length_replicate]; first | done | omega)) (by (simp only [updL, List.drop_succ_cons, List.drop_zero, List.take_succ_cons, List.take_zero, List.cons_append, List.nil_append, List.append_assoc, drop_dc, drop_dc', take_dc, take_dc', drop_L, drop_L', take_L, take_L', Nat.reduceLeDiff, Nat.reduceSub, Nat.reduceAdd, Nat.le_refl, List.length_cons, List.length_append, List.length_nil, dc_length, len_L, List.drop_nil, List.take_nil, List.append_nil, List.length_map, List.length_replicate]; first | done | exact rfl)))); exact rfl)) : Runs P w0 F0 L n env ⟨d, .build T parts, ty, pos, af, gd⟩ (.agg cs.toArray) := r_build ZC.h PLT.h hf
theorem zba {T e m s : Nat} {parts : Array (Nat × Operand)} {zs cs : List Value} [ZC P T zs] [ART P T m e] [SZ P e s] (hf : fillL (fun i => some (i * s, s)) zs (parts.toList.map fun p => (p.1, ev n env p.2)) = some cs := by first | exact rfl | ((repeat (apply fillL_cons rfl (by conv => lhs; whnf) (by first | (simp only [Value.cells, List.toList_toArray]; first | done | exact rfl) | exact cells_one) (by first | exact rfl | (simp only [List.drop_succ_cons, List.drop_zero, List.take_succ_cons, List.take_zero, List.cons_append, List.nil_append, List.append_assoc, drop_dc, drop_dc', take_dc, take_dc', drop_L, drop_L', take_L, take_L', Nat.reduceLeDiff, Nat.reduceSub, Nat.reduceAdd, Nat.le_refl, List.length_cons, List.length_append, List.length_nil, dc_length, len_L, List.drop_nil, List.take_nil, List.append_nil, List.length_map, List.length_replicate]; first | done | omega)) (by first | exact rfl | (simp only [List.drop_succ_cons, List.drop_zero, List.take_succ_cons, List.take_zero, List.cons_append, List.nil_append, List.append_assoc, drop_dc, drop_dc', take_dc, take_dc', drop_L, drop_L', take_L, take_L', Nat.reduceLeDiff, Nat.reduceSub, Nat.reduceAdd, Nat.le_refl, List.length_cons, List.length_append, List.length_nil, dc_length, len_L, List.drop_nil, List.take_nil, List.append_nil, List.length_map, List.length_replicate]; first | done | omega)) (by (simp only [updL, List.drop_succ_cons, List.drop_zero, List.take_succ_cons, List.take_zero, List.cons_append, List.nil_append, List.append_assoc, drop_dc, drop_dc', take_dc, take_dc', drop_L, drop_L', take_L, take_L', Nat.reduceLeDiff, Nat.reduceSub, Nat.reduceAdd, Nat.le_refl, List.length_cons, List.length_append, List.length_nil, dc_length, len_L, List.drop_nil, List.take_nil, List.append_nil, List.length_map, List.length_replicate]; first | done | exact rfl)))); exact rfl)) : Runs P w0 F0 L n env ⟨d, .build T parts, ty, pos, af, gd⟩ (.agg cs.toArray) := r_buildA ZC.h ART.h SZ.h hf
theorem zal {T : TypeId} {cs : List Value} [ZC P T cs] (k : ∀ b, Gl P w0 F0 (blk b T cs :: L) ops Q rest n ((t, .pointer (some ⟨b, 0, none⟩)) :: env)) (hw : Wt ops n env ⟨some t, .alloc T, ty, pos, af, gd⟩ true := by first | exact wt0 rfl | exact wtgT rfl rfl rfl rfl) : Gl P w0 F0 L ops Q (⟨some t, .alloc T, ty, pos, af, gd⟩ :: rest) n env := gl_alloc hw ZC.h k
theorem zbN {T : TypeId} {x : Operand} {cs : List Value} (k : ∀ b, Gl P w0 F0 (blk b T cs :: L) ops Q rest n ((t, .pointer (some ⟨b, 0, none⟩)) :: env)) (hx : ev n env x = .agg cs.toArray := by exact rfl) (hw : Wt ops n env ⟨some t, .box T x, ty, pos, af, gd⟩ true := by first | exact wt0 rfl | exact wtgT rfl rfl rfl rfl) : Gl P w0 F0 L ops Q (⟨some t, .box T x, ty, pos, af, gd⟩ :: rest) n env := gl_boxN hw hx k
theorem zb1 {T : TypeId} {x : Operand} (k : ∀ b, Gl P w0 F0 (blk b T [v] :: L) ops Q rest n ((t, .pointer (some ⟨b, 0, none⟩)) :: env)) (hx : ev n env x = v := by conv => lhs; whnf) (h1 : v.oneCell' = true := by first | exact rfl | exact One1.h) (hw : Wt ops n env ⟨some t, .box T x, ty, pos, af, gd⟩ true := by first | exact wt0 rfl | exact wtgT rfl rfl rfl rfl) : Gl P w0 F0 L ops Q (⟨some t, .box T x, ty, pos, af, gd⟩ :: rest) n env := gl_box1 hw hx h1 k
theorem zs1 {T : TypeId} {x y : Operand} {g o T' : Nat} {cs cs' : List Value} {L' : List Res} [SZ P T 1] (k : Gl P w0 F0 (blk g T' cs' :: L') ops Q rest n env) (hx : ev n env x = .pointer (some ⟨g, o, none⟩) := by exact rfl) (hy : ev n env y = v := by conv => lhs; whnf) (h1 : v.oneCell' = true := by first | exact rfl | exact One1.h) (hp : Pick L (blk g T' cs) L' := by repeat (first | exact Pick.here | apply Pick.there)) (hl : o + 1 ≤ cs.length := by first | exact rfl | (simp only [List.drop_succ_cons, List.drop_zero, List.take_succ_cons, List.take_zero, List.cons_append, List.nil_append, List.append_assoc, drop_dc, drop_dc', take_dc, take_dc', drop_L, drop_L', take_L, take_L', Nat.reduceLeDiff, Nat.reduceSub, Nat.reduceAdd, Nat.le_refl, List.length_cons, List.length_append, List.length_nil, dc_length, len_L, List.drop_nil, List.take_nil, List.append_nil, List.length_map, List.length_replicate]; first | done | omega)) (hu : updL cs o [v] = cs' := by (simp only [updL, List.drop_succ_cons, List.drop_zero, List.take_succ_cons, List.take_zero, List.cons_append, List.nil_append, List.append_assoc, drop_dc, drop_dc', take_dc, take_dc', drop_L, drop_L', take_L, take_L', Nat.reduceLeDiff, Nat.reduceSub, Nat.reduceAdd, Nat.le_refl, List.length_cons, List.length_append, List.length_nil, dc_length, len_L, List.drop_nil, List.take_nil, List.append_nil, List.length_map, List.length_replicate]; first | done | exact rfl)) (hw : Wt ops n env ⟨none, .store T x y, ty, pos, af, gd⟩ true := by first | exact wt0 rfl | exact wtgT rfl rfl rfl rfl) : Gl P w0 F0 L ops Q (⟨none, .store T x y, ty, pos, af, gd⟩ :: rest) n env := gl_store1 hw hx hy h1 SZ.h hp hl hu k
theorem zsN {T : TypeId} {x y : Operand} {g o T' m : Nat} {cs new cs' : List Value} {L' : List Res} [SZ P T m] (k : Gl P w0 F0 (blk g T' cs' :: L') ops Q rest n env) (hx : ev n env x = .pointer (some ⟨g, o, none⟩) := by exact rfl) (hy : ev n env y = .agg new.toArray := by exact rfl) (hm : new.length = m := by first | exact rfl | (simp only [List.drop_succ_cons, List.drop_zero, List.take_succ_cons, List.take_zero, List.cons_append, List.nil_append, List.append_assoc, drop_dc, drop_dc', take_dc, take_dc', drop_L, drop_L', take_L, take_L', Nat.reduceLeDiff, Nat.reduceSub, Nat.reduceAdd, Nat.le_refl, List.length_cons, List.length_append, List.length_nil, dc_length, len_L, List.drop_nil, List.take_nil, List.append_nil, List.length_map, List.length_replicate]; first | done | omega)) (hp : Pick L (blk g T' cs) L' := by repeat (first | exact Pick.here | apply Pick.there)) (hl : o + m ≤ cs.length := by first | exact rfl | (simp only [List.drop_succ_cons, List.drop_zero, List.take_succ_cons, List.take_zero, List.cons_append, List.nil_append, List.append_assoc, drop_dc, drop_dc', take_dc, take_dc', drop_L, drop_L', take_L, take_L', Nat.reduceLeDiff, Nat.reduceSub, Nat.reduceAdd, Nat.le_refl, List.length_cons, List.length_append, List.length_nil, dc_length, len_L, List.drop_nil, List.take_nil, List.append_nil, List.length_map, List.length_replicate]; first | done | omega)) (h1 : ∀ u ∈ new, u.oneCell' = true := by repeat (first | exact all_nil' | exact dc_one _ | exact One.h | refine all_cons' rfl ?_ | refine all_cons' One1.h ?_ | refine all_app' (dc_one _) ?_ | refine all_app' One.h ?_)) (hu : updL cs o new = cs' := by (simp only [updL, List.drop_succ_cons, List.drop_zero, List.take_succ_cons, List.take_zero, List.cons_append, List.nil_append, List.append_assoc, drop_dc, drop_dc', take_dc, take_dc', drop_L, drop_L', take_L, take_L', Nat.reduceLeDiff, Nat.reduceSub, Nat.reduceAdd, Nat.le_refl, List.length_cons, List.length_append, List.length_nil, dc_length, len_L, List.drop_nil, List.take_nil, List.append_nil, List.length_map, List.length_replicate]; first | done | exact rfl)) (hw : Wt ops n env ⟨none, .store T x y, ty, pos, af, gd⟩ true := by first | exact wt0 rfl | exact wtgT rfl rfl rfl rfl) : Gl P w0 F0 L ops Q (⟨none, .store T x y, ty, pos, af, gd⟩ :: rest) n env := gl_storeN hw hx hy SZ.h hm hp hl h1 hu k
theorem zsA {T : TypeId} {x y : Operand} {g T' m : Nat} {cs new : List Value} {L' : List Res} [SZ P T m] (hm : new.length = m) (h1 : ∀ u ∈ new, u.oneCell' = true) (k : Gl P w0 F0 (blk g T' new :: L') ops Q rest n env) (hx : ev n env x = .pointer (some ⟨g, 0, none⟩) := by exact rfl) (hy : ev n env y = .agg new.toArray := by exact rfl) (hp : Pick L (blk g T' cs) L' := by repeat (first | exact Pick.here | apply Pick.there)) (hl : cs.length = m := by first | exact rfl | (simp only [List.drop_succ_cons, List.drop_zero, List.take_succ_cons, List.take_zero, List.cons_append, List.nil_append, List.append_assoc, drop_dc, drop_dc', take_dc, take_dc', drop_L, drop_L', take_L, take_L', Nat.reduceLeDiff, Nat.reduceSub, Nat.reduceAdd, Nat.le_refl, List.length_cons, List.length_append, List.length_nil, dc_length, len_L, List.drop_nil, List.take_nil, List.append_nil, List.length_map, List.length_replicate]; first | done | omega)) (hw : Wt ops n env ⟨none, .store T x y, ty, pos, af, gd⟩ true := by first | exact wt0 rfl | exact wtgT rfl rfl rfl rfl) : Gl P w0 F0 L ops Q (⟨none, .store T x y, ty, pos, af, gd⟩ :: rest) n env := gl_storeN hw hx hy SZ.h hm hp (by omega) h1 (updL_all (by omega)) k
theorem ze0 {T e s : Nat} [SLT P T e] [SZ P e s] (k : ∀ b, Gl P w0 F0 (rowR e s (some ⟨b, 0, none⟩) 0 0 [] :: L) ops Q rest n ((t, .slice (some ⟨b, 0, none⟩) 0 0) :: env)) (hw : Wt ops n env ⟨some t, .buildSlice T 0 #[], ty, pos, af, gd⟩ true := by first | exact wt0 rfl | exact wtgT rfl rfl rfl rfl) : Gl P w0 F0 L ops Q (⟨some t, .buildSlice T 0 #[], ty, pos, af, gd⟩ :: rest) n env := gl_bslice0 hw SLT.h SZ.h k
theorem ze1 {T e : Nat} {x : Operand} {z : List Value} [SLT P T e] [SZ P e 1] [ZC P e z] (k : ∀ b, Gl P w0 F0 (rowR e 1 (some ⟨b, 0, none⟩) 1 1 [v] :: L) ops Q rest n ((t, .slice (some ⟨b, 0, none⟩) 1 1) :: env)) (hx : ev n env x = v := by conv => lhs; whnf) (h1 : v.oneCell' = true := by first | exact rfl | exact One1.h) (hw : Wt ops n env ⟨some t, .buildSlice T 1 #[(0, x)], ty, pos, af, gd⟩ true := by first | exact wt0 rfl | exact wtgT rfl rfl rfl rfl) : Gl P w0 F0 L ops Q (⟨some t, .buildSlice T 1 #[(0, x)], ty, pos, af, gd⟩ :: rest) n env := gl_bsl1 hw SLT.h SZ.h ZC.h hx h1 k
theorem zeN {T e s : Nat} {x : Operand} {cs z : List Value} [SLT P T e] [SZ P e s] [ZC P e z] (k : ∀ b, Gl P w0 F0 (rowR e s (some ⟨b, 0, none⟩) 1 1 cs :: L) ops Q rest n ((t, .slice (some ⟨b, 0, none⟩) 1 1) :: env)) (hx : ev n env x = .agg cs.toArray := by exact rfl) (hl : cs.length = s := by first | exact rfl | (simp only [List.drop_succ_cons, List.drop_zero, List.take_succ_cons, List.take_zero, List.cons_append, List.nil_append, List.append_assoc, drop_dc, drop_dc', take_dc, take_dc', drop_L, drop_L', take_L, take_L', Nat.reduceLeDiff, Nat.reduceSub, Nat.reduceAdd, Nat.le_refl, List.length_cons, List.length_append, List.length_nil, dc_length, len_L, List.drop_nil, List.take_nil, List.append_nil, List.length_map, List.length_replicate]; first | done | omega)) (hb : Nat.ble (1 * s) 16777216 = true := by exact rfl) (hp : Nat.blt 0 (1 * s) = true := by exact rfl) (hw : Wt ops n env ⟨some t, .buildSlice T 1 #[(0, x)], ty, pos, af, gd⟩ true := by first | exact wt0 rfl | exact wtgT rfl rfl rfl rfl) : Gl P w0 F0 L ops Q (⟨some t, .buildSlice T 1 #[(0, x)], ty, pos, af, gd⟩ :: rest) n env := gl_bslN hw SLT.h SZ.h ZC.h hx hl hb hp k
theorem zc {f : FuncId} {xs : List Operand} {ts : Array TypeId} {vs : List Value} {L' M : List Res} {α : Type} {V : α → Value} {N : α → List Res} [CLT P f] (k : ∀ x, Gl P w0 F0 (N x ++ L') ops Q rest n ((t, V x) :: env)) (hv : xs.map (ev n env) = vs := by exact rfl) (hs : Sel L M L' := by repeat (first | exact Sel.nil | (apply Sel.cons; · (repeat (first | exact Pick.here | apply Pick.there))))) (c : ∀ w F1 F2, stars M w F1 → stars L' w F2 → (∀ k, F1 k → ¬ F2 k) → Stp w0 F0 w (fun k => F1 k ∨ F2 k) → Calls P f vs.toArray w (Post w F1 V N)) (hw : Wt ops n env ⟨some t, .call ⟨.value (.func f), xs.toArray, ts⟩, ty, pos, af, gd⟩ true := by first | exact wt0 rfl | exact wtgT rfl rfl rfl rfl) : Gl P w0 F0 L ops Q (⟨some t, .call ⟨.value (.func f), xs.toArray, ts⟩, ty, pos, af, gd⟩ :: rest) n env := gl_call hw (e_call CLT.h hv) hs c k
theorem ze {α : Type} {V : α → Value} {N : α → List Res} {L' : List Res} (x : α) (hv : v = V x := by exact rfl) (hs : Sel L (N x) L' := by repeat (first | exact Sel.nil | (apply Sel.cons; · (repeat (first | exact Pick.here | apply Pick.there))))) : ∀ w, St w0 F0 L w → Post w0 F0 V N (.returned v) w := fun w hw => ⟨x, by rw [hv], hw.sel hs⟩
theorem zsel {L' M : List Res} (hs : Sel L M L' := by repeat (first | exact Sel.nil | (apply Sel.cons; · (repeat (first | exact Pick.here | apply Pick.there))))) : ∀ w, St w0 F0 L w → St w0 F0 M w := fun w hw => hw.sel hs
class BP (b : Bool) (p q : outParam Prop) : Prop where
  t : b = true → p
  f : b = false → q
instance (priority := 10) {b : Bool} : BP b (b = true) (b = false) := ⟨id, id⟩
instance (priority := 100) {p : Prop} [Decidable p] : BP (decide p) p (¬ p) := ⟨of_decide_eq_true, of_decide_eq_false⟩
instance {i j : Int} [Decidable (i < j)] : BP (decide (i < j)) (i < j) (j ≤ i) := ⟨of_decide_eq_true, fun h => Int.not_lt.1 (of_decide_eq_false h)⟩
instance {i j : Int} [Decidable (i ≤ j)] : BP (decide (i ≤ j)) (i ≤ j) (j < i) := ⟨of_decide_eq_true, fun h => Int.not_le.1 (of_decide_eq_false h)⟩
instance {i j : Nat} [Decidable (i < j)] : BP (decide (i < j)) (i < j) (j ≤ i) := ⟨of_decide_eq_true, fun h => Nat.not_lt.1 (of_decide_eq_false h)⟩
instance {i j : Nat} [Decidable (i ≤ j)] : BP (decide (i ≤ j)) (i ≤ j) (j < i) := ⟨of_decide_eq_true, fun h => Nat.not_le.1 (of_decide_eq_false h)⟩
instance {b : Bool} {p q : Prop} [h : BP b p q] : BP (!b) q p := ⟨fun e => h.f (by simpa using e), fun e => h.t (by simpa using e)⟩
instance {a b : Bool} {p q p' q' : Prop} [h : BP a p q] [h' : BP b p' q'] : BP (a && b) (p ∧ p') (q ∨ q') := ⟨fun e => by simp at e; exact ⟨h.t e.1, h'.t e.2⟩, fun e => by cases a <;> cases b <;> simp at e <;> first | exact .inl (h.f rfl) | exact .inr (h'.f rfl)⟩
instance {a b : Bool} {p q p' q' : Prop} [h : BP a p q] [h' : BP b p' q'] : BP (a || b) (p ∨ p') (q ∧ q') := ⟨fun e => by cases a <;> cases b <;> simp at e <;> first | exact .inl (h.t rfl) | exact .inr (h'.t rfl), fun e => by simp at e; exact ⟨h.f e.1, h'.f e.2⟩⟩
theorem gif {c : Operand} {x y : Code} {b : Bool} {p q : Prop} (hc : ev n env c = .bool b) [h : BP b p q] (ht : p → Gc P w0 F0 L x Q n env) (hf : q → Gc P w0 F0 L y Q n env) : Gc P w0 F0 L (.cond c x y) Q n env := gc_cond hc (fun e => ht (h.t e)) (fun e => hf (h.f e))
theorem zrd {α : Type} {Ls : α → List Res} {slots : α → Env} {junk : List Nat} {μ : α → Nat} {env0 : Env} {m : Nat} {a0 : α} {u : Nat → Value} {f : List Nat} (a : α) (hm : μ a < m) (hL : ∀ w, St w0 F0 L w → St w0 F0 (Ls a) w)
    (hf : Front (headE slots junk env0 a0 u) env f := by repeat (first | exact Front.here | apply Front.there)) (hs : (slots a).map (fun p => Env.get env p.1) = (slots a).map Prod.snd := by kernel_rfl)
    (hk : f.all (fun t => ((slots a).map Prod.fst).contains t || junk.contains t) = true := by kernel_rfl) (hkeys : (slots a0).map Prod.fst = (slots a).map Prod.fst := by rfl) :
    Gx w0 F0 L (Exit.then (RoundK w0 F0 Ls slots junk μ n env0 m) Q) .normal n env := gx_round a (env_next hf hs hk hkeys) hm hL
theorem zlp {p : Prop} {L' M : List Res} (hp : p) (hs : Sel L M L' := by repeat (first | exact Sel.nil | (apply Sel.cons; · (repeat (first | exact Pick.here | apply Pick.there))))) : ∀ w, St w0 F0 L w → St w0 F0 (pureR p :: M) w := fun w hw => by
  obtain ⟨F', hF', hst'⟩ := hw.sel hs
  exact ⟨F', stars_pure_mk hp hF', hst'⟩
theorem zlq {p : Prop} {L' M M' : List Res} (hp : p) (e : M' = M) (hs : Sel L M' L' := by repeat (first | exact Sel.nil | (apply Sel.cons; · (repeat (first | exact Pick.here | apply Pick.there))))) : ∀ w, St w0 F0 L w → St w0 F0 (pureR p :: M) w := fun w hw => by
  subst e
  exact zlp hp hs w hw
theorem zapo {T : Nat} {x y : Operand} {e size bytes m c j c2 : Nat} {a a2 : Option Addr} {xs news : List Value} {L' L2 : List Res} [ELT P T e size bytes] (k : ∀ a' c', Gl P w0 F0 (rowR e size a' (m + j) c' (xs ++ news) :: L') ops Q rest n ((t, .slice a' (m + j) c') :: env)) (hx : ev n env x = .slice a m c := by exact rfl) (hy : ev n env y = .slice a2 j c2 := by exact rfl) (hp : Pick L (rowR e size a m c xs) L' := by repeat (first | exact Pick.here | apply Pick.there)) (hq : Pick L (rowR e size a2 j c2 news) L2 := by repeat (first | exact Pick.here | apply Pick.there)) (h1 : ∀ u ∈ news, u.oneCell' = true := by repeat (first | exact all_nil' | exact dc_one _ | exact One.h | refine all_cons' rfl ?_ | refine all_cons' One1.h ?_ | refine all_app' (dc_one _) ?_ | refine all_app' One.h ?_)) (hb : (m + j) * bytes ≤ 140737488355328 := by omega) (h63 : m + j ≤ maxLen := by simp only [maxLen]; omega) (hw : Wt ops n env ⟨some t, .call ⟨.builtin .append, #[x, y], #[T, T]⟩, ty, pos, af, gd⟩ true := by first | exact wt0 rfl | exact wtgT rfl rfl rfl rfl) : Gl P w0 F0 L ops Q (⟨some t, .call ⟨.builtin .append, #[x, y], #[T, T]⟩, ty, pos, af, gd⟩ :: rest) n env := gl_append hw hx hy hp ELT.h (fun w hw => hw.row hq) h1 h63 hb k
end
theorem wpIn_exits {ro : Option Nat} {P : Program} {o : Oper} {a : Act} {w : World} {K : Act → World → Prop} {Q : Exit → Act → World → Prop} (h : o.wpIn (FR ro) 0 P a w K (Exit.then K Q)) : o.wpIn (FR ro) 0 P a w K Q := by
  unfold Oper.wpIn at *
  refine ⟨h.1, ?_⟩
  have h := h.2
  generalize (o.semAt (FR ro).round a.eval).run P w = r at *
  cases r with
  | ok m w' =>
    cases m with
    | enter f args => exact ⟨h.1, CallsIn.mono h.2 fun e w'' he => by cases e <;> exact he⟩
    | round l f tmps asg bd => exact ⟨h.1, RoundIn.mono h.2 fun e w'' he => by cases e <;> exact he⟩
    | _ => exact h
  | halt x w' => cases x <;> exact h
def wpAnyHI (ro : Option Nat) (P : Program) (md : Region.Mode) (ops : Array Oper) (Q : Exit → Act → World → Prop) (S : World → Prop) : Nat → Array Bool → Act → World → Prop
  | 0, listed, a, w => Region.ready md ops listed = [] ∧ Q .normal a w
  | fuel + 1, listed, a, w =>
    (Region.ready md ops listed = [] → Q .normal a w) ∧
    ∀ i ∈ Region.ready md ops listed, wpOpIn (FR ro) 0 P ops Q i (fun a' w' => S w' ∧ wpAnyHI ro P md ops Q S fuel (listed.setIfInBounds i true) a' w') a w
section heldI
variable {ro : Option Nat} {P : Program} {ops : Array Oper} {Q : Exit → Act → World → Prop} {md : Region.Mode} {S : World → Prop}
theorem wpAnyIn_of_held : ∀ (fuel : Nat) (listed : Array Bool) (a : Act) (w : World), wpAnyHI ro P md ops Q S fuel listed a w → wpAnyIn (FR ro) 0 P md ops Q fuel listed a w
  | 0, _, _, _, h => h
  | fuel + 1, _, _, _, h => ⟨h.1, fun i hi => wpOpIn_mono (fun a' w' h' => wpAnyIn_of_held fuel _ a' w' h'.2) (h.2 i hi)⟩
theorem wpAnyHI_first {i : Nat} {oi : Oper} {v : Value} (hi : ops[i]? = some oi) (hsel : ∀ (j : Nat) (o : Oper) cs b, ops[j]? = some o → o.op ≠ .select cs b) (hnd : noDef ops = true)
    (hQ : ∀ c a w, Q (.panic c) (a.put oi.dst v) w → Q (.panic c) a w) :
    ∀ (fuel : Nat) (listed : Array Bool) (a : Act) (w : World),
      (∀ j oj, ops[j]? = some oj → j ≠ i → listed.getD j true = false → (∀ e ∈ oj.after, Region.binds md e = true → e.on ≠ i) → oi.apart ops oj = true) →
      i ∈ Region.ready md ops listed → YieldsIf P ops S oi v a → S w →
      wpAnyHI ro P md ops Q S fuel (listed.setIfInBounds i true) (a.put oi.dst v) w → wpAnyHI ro P md ops Q S (fuel + 1) listed a w := by
  intro fuel
  induction fuel with
  | zero =>
    intro listed a w _ hr hy hS H
    refine ⟨fun h => (by rw [h] at hr; cases hr), fun j hj => ?_⟩
    by_cases hji : j = i
    · subst hji; exact YieldsIf.wpOpIn hi hy hS ⟨hS, H⟩
    · have := ready_mono hj hji
      rw [H.1] at this
      cases this
  | succ fuel ih =>
    intro listed a w hfree hr hy hS H
    refine ⟨fun h => (by rw [h] at hr; cases hr), fun j hj => ?_⟩
    by_cases hji : j = i
    · subst hji; exact YieldsIf.wpOpIn hi hy hS ⟨hS, H⟩
    · have h1 := H.2 j (ready_mono hj hji)
      obtain ⟨hjun, oj, hoj, hall⟩ := mem_ready.1 hj
      have hnot : ∀ e ∈ oj.after, Region.binds md e = true → e.on ≠ i := fun e he hb heq => by
        have h1 := hall e he hb
        have h0 := (mem_ready.1 hr).1
        rw [heq] at h1
        rcases Nat.lt_or_ge i listed.size with h' | h'
        · simp [h'] at h0 h1; rw [h0] at h1; cases h1
        · simp [Array.getElem?_eq_none h'] at h1
      have h2 := wpOpIn_putIf hoj (hfree j oj hoj hji hjun hnot) (fun cs b => hsel i oi cs b hi) (fun cs b => hsel j oj cs b hoj) (noDef_spec hnd hoj) hQ hy h1
      have hfree' : ∀ k ok, ops[k]? = some ok → k ≠ i → (listed.setIfInBounds j true).getD k true = false →
          (∀ e ∈ ok.after, Region.binds md e = true → e.on ≠ i) → oi.apart ops ok = true := fun k ok hk hki hun hno => by
        refine hfree k ok hk hki ?_ hno
        by_cases hjk : j = k
        · subst hjk; exact hjun
        · rw [getD_set_ne true hjk] at hun; exact hun
      refine wpOpIn_mono (fun a' w' h3 => ⟨h3.2.1, ih (listed.setIfInBounds j true) a' w' hfree' (ready_mono hr (Ne.symm hji)) h3.1 h3.2.1 ?_⟩) h2
      rw [Array.setIfInBounds_comm _ _ hji]
      exact h3.2.2
theorem wpOpIn_of_list {i : Nat} {o : Oper} {K : Act → World → Prop} {a : Act} {w : World} (hi : ops[i]? = some o) (h : wpListIn (FR ro) 0 P ops (Exit.then K Q) [o] a w) : wpOpIn (FR ro) 0 P ops Q i K a w := by
  unfold Go.wpOpIn
  simp only [hi]
  unfold wpListIn at h
  split
  · rename_i hw
    rw [if_pos hw] at h
    exact wpIn_exits h
  · rename_i hw
    rw [if_neg hw] at h
    exact h
theorem wpOpIn_of_list' {i : Nat} {o : Oper} {a : Act} {w : World} (hi : ops[i]? = some o) (h : wpListIn (FR ro) 0 P ops Q [o] a w) : wpOpIn (FR ro) 0 P ops Q i (Q .normal) a w := by
  unfold Go.wpOpIn
  simp only [hi]
  unfold wpListIn at h
  split
  · rename_i hw
    rw [if_pos hw] at h
    exact h
  · rename_i hw
    rw [if_neg hw] at h
    exact h
end heldI
def Gh (P : Program) (w0 : World) (F0 : Nat → Prop) (K L : List Res) (ops : Array Oper) (Q : Exit → Act → World → Prop) (fuel : Nat) (listed : Array Bool) (n : Fm) (env : Env) : Prop :=
  ∀ w, St w0 F0 L w → wpAnyHI n.ro P .any ops Q (St w0 F0 K) fuel listed (fr n env) w
def NextH (P : Program) (w0 : World) (F0 : Nat → Prop) (K : List Res) (ops : Array Oper) (Q : Exit → Act → World → Prop) (fuel : Nat) (listed : Array Bool) (n : Fm) (a : Act) (w : World) : Prop :=
  St w0 F0 K w ∧ wpAnyHI n.ro P .any ops Q (St w0 F0 K) fuel listed a w
section held
variable {P : Program} {w0 : World} {F0 : Nat → Prop} {K L : List Res} {Q : Exit → Act → World → Prop} {n : Fm} {env : Env} {ops : Array Oper} {listed : Array Bool} {fuel : Nat}
theorem gc_regionH {id : Nat} {l : List Oper} (K : List Res) (h : Gh P w0 F0 K L l.toArray Q l.length (Array.replicate l.length false) n env) (hm : P.follows .mixedOrders = true := by kernel_rfl) : Gc P w0 F0 L (.region id l.toArray true) Q n env := fun w hw =>
  wpIn_region_any hm (wpAnyIn_of_held _ _ _ _ (by have := h _ (hw.drawn (w.drawn + 1)); simpa using this))
theorem yp (i : Nat) {t : Tmp} {op : Op} {ty : TypeId} {pos : String} {af : Array Edge} {gd : Option (Nat × Bool)} {v : Value} {L' : List Res} (hi : ops[i]? = some ⟨some t, op, ty, pos, af, gd⟩) (hR : Runs P w0 F0 K n env ⟨some t, op, ty, pos, af, gd⟩ v)
    (k : Gh P w0 F0 K L ops Q fuel (listed.setIfInBounds i true) n ((t, v) :: env)) (hw : Wt ops n env ⟨some t, op, ty, pos, af, gd⟩ true := by first | exact wt0 rfl | exact wtgT rfl rfl rfl rfl) (hsel : Sel L K L' := by repeat (first | exact Sel.nil | (apply Sel.cons; · (repeat (first | exact Pick.here | apply Pick.there)))))
    (hs : Region.noSelect ops = true := by kernel_rfl) (hd : noDef ops = true := by kernel_rfl) (hf : Region.free .any ops listed i = true := by kernel_rfl) (hr : (Region.ready .any ops listed).contains i = true := by kernel_rfl)
    (hQ : ∀ c a w, Q (.panic c) (a.put (some t) v) w → Q (.panic c) a w := by exact fun _ _ _ h => h) : Gh P w0 F0 K L ops Q (fuel + 1) listed n env := fun w hst =>
  wpAnyHI_first hi (Region.noSelect_spec hs) hd hQ fuel listed _ _ (Region.free_spec hi hf) (by simpa using hr) (.inl ⟨hw, fun w' hw' => by rw [fr_eval]; exact hR w' hw'⟩) (hst.sel hsel) (by rw [fr_put]; exact k w hst)
theorem yn (i : Nat) {t : Tmp} {op : Op} {ty : TypeId} {pos : String} {af : Array Edge} {gd : Option (Nat × Bool)} {L' : List Res} (hi : ops[i]? = some ⟨some t, op, ty, pos, af, gd⟩)
    (k : Gh P w0 F0 K L ops Q fuel (listed.setIfInBounds i true) n ((t, undef) :: env)) (hw : Wt ops n env ⟨some t, op, ty, pos, af, gd⟩ false := by first | exact wtgF rfl rfl rfl rfl rfl | exact wtu rfl rfl rfl rfl) (hsel : Sel L K L' := by repeat (first | exact Sel.nil | (apply Sel.cons; · (repeat (first | exact Pick.here | apply Pick.there)))))
    (hs : Region.noSelect ops = true := by kernel_rfl) (hd : noDef ops = true := by kernel_rfl) (hf : Region.free .any ops listed i = true := by kernel_rfl) (hr : (Region.ready .any ops listed).contains i = true := by kernel_rfl)
    (hQ : ∀ c a w, Q (.panic c) (a.put (some t) undef) w → Q (.panic c) a w := by exact fun _ _ _ h => h) : Gh P w0 F0 K L ops Q (fuel + 1) listed n env := fun w hst =>
  wpAnyHI_first hi (Region.noSelect_spec hs) hd hQ fuel listed _ _ (Region.free_spec hi hf) (by simpa using hr) (.inr ⟨hw, rfl⟩) (hst.sel hsel) (by rw [fr_put]; exact k w hst)
theorem yo (i : Nat) {o : Oper} (hi : ops[i]? = some o) (k : Gl P w0 F0 L ops (Exit.then (NextH P w0 F0 K ops Q fuel (listed.setIfInBounds i true) n) Q) [o] n env) (hr : Region.ready .any ops listed = [i] := by kernel_rfl) : Gh P w0 F0 K L ops Q (fuel + 1) listed n env := fun w hst =>
  ⟨fun h => (by rw [hr] at h; cases h), fun j hj => by
    rw [hr] at hj
    obtain rfl : j = i := by simpa using hj
    exact wpOpIn_of_list hi (k w hst)⟩
theorem yx {L' : List Res} {Q' : Exit → Act → World → Prop} (k : Gh P w0 F0 K L ops Q fuel listed n env) (hsel : Sel L K L' := by repeat (first | exact Sel.nil | (apply Sel.cons; · (repeat (first | exact Pick.here | apply Pick.there))))) : Gl P w0 F0 L ops (Exit.then (NextH P w0 F0 K ops Q fuel listed n) Q') [] n env := gl_nil fun w hw => ⟨hw.sel hsel, k w hw⟩
theorem yd {fuel : Nat} (h : Gx w0 F0 L Q .normal n env) (hr : Region.ready .any ops listed = [] := by kernel_rfl) : Gh P w0 F0 K L ops Q fuel listed n env := fun w hw => (by cases fuel with | zero => exact ⟨hr, h w hw⟩ | succ f => exact ⟨fun _ => h w hw, by rw [hr]; simp⟩)
end held
section tail
variable {ro : Option Nat} {P : Program} {ops : Array Oper} {Q : Exit → Act → World → Prop} {md : Region.Mode} {S : World → Prop} {z : Nat} {T : Act → World → Prop}
def wpAnyT (ro : Option Nat) (P : Program) (md : Region.Mode) (ops : Array Oper) (Q : Exit → Act → World → Prop) (S : World → Prop) (z : Nat) (T : Act → World → Prop) : Nat → Array Bool → Act → World → Prop
  | 0, listed, a, w => Region.ready md ops listed = [z] ∧ T a w
  | fuel + 1, listed, a, w =>
    (Region.ready md ops listed = [z] → T a w) ∧ Region.ready md ops listed ≠ [] ∧
    ∀ i ∈ Region.ready md ops listed, i ≠ z → wpOpIn (FR ro) 0 P ops Q i (fun a' w' => S w' ∧ wpAnyT ro P md ops Q S z T fuel (listed.setIfInBounds i true) a' w') a w
theorem wpAnyT_first {i : Nat} {oi : Oper} {v : Value} (hi : ops[i]? = some oi) (hz : i ≠ z) (hsel : ∀ (j : Nat) (o : Oper) cs b, ops[j]? = some o → o.op ≠ .select cs b) (hnd : noDef ops = true)
    (hQ : ∀ c a w, Q (.panic c) (a.put oi.dst v) w → Q (.panic c) a w) :
    ∀ (fuel : Nat) (listed : Array Bool) (a : Act) (w : World),
      (∀ j oj, ops[j]? = some oj → j ≠ i → listed.getD j true = false → (∀ e ∈ oj.after, Region.binds md e = true → e.on ≠ i) → oi.apart ops oj = true) →
      i ∈ Region.ready md ops listed → YieldsIf P ops S oi v a → S w →
      wpAnyT ro P md ops Q S z T fuel (listed.setIfInBounds i true) (a.put oi.dst v) w → wpAnyT ro P md ops Q S z T (fuel + 1) listed a w := by
  intro fuel
  induction fuel with
  | zero =>
    intro listed a w _ hr hy hS H
    refine ⟨fun h => (by rw [h] at hr; exact absurd (by simpa using hr) hz), fun h => (by rw [h] at hr; cases hr), fun j hj hjz => ?_⟩
    by_cases hji : j = i
    · subst hji; exact YieldsIf.wpOpIn hi hy hS ⟨hS, H⟩
    · have := ready_mono hj hji
      rw [H.1] at this
      exact absurd (by simpa using this) hjz
  | succ fuel ih =>
    intro listed a w hfree hr hy hS H
    refine ⟨fun h => (by rw [h] at hr; exact absurd (by simpa using hr) hz), fun h => (by rw [h] at hr; cases hr), fun j hj hjz => ?_⟩
    by_cases hji : j = i
    · subst hji; exact YieldsIf.wpOpIn hi hy hS ⟨hS, H⟩
    · have h1 := H.2.2 j (ready_mono hj hji) hjz
      obtain ⟨hjun, oj, hoj, hall⟩ := mem_ready.1 hj
      have hnot : ∀ e ∈ oj.after, Region.binds md e = true → e.on ≠ i := fun e he hb heq => by
        have h1 := hall e he hb
        have h0 := (mem_ready.1 hr).1
        rw [heq] at h1
        rcases Nat.lt_or_ge i listed.size with h' | h'
        · simp [h'] at h0 h1; rw [h0] at h1; cases h1
        · simp [Array.getElem?_eq_none h'] at h1
      have h2 := wpOpIn_putIf hoj (hfree j oj hoj hji hjun hnot) (fun cs b => hsel i oi cs b hi) (fun cs b => hsel j oj cs b hoj) (noDef_spec hnd hoj) hQ hy h1
      have hfree' : ∀ k ok, ops[k]? = some ok → k ≠ i → (listed.setIfInBounds j true).getD k true = false →
          (∀ e ∈ ok.after, Region.binds md e = true → e.on ≠ i) → oi.apart ops ok = true := fun k ok hk hki hun hno => by
        refine hfree k ok hk hki ?_ hno
        by_cases hjk : j = k
        · subst hjk; exact hjun
        · rw [getD_set_ne true hjk] at hun; exact hun
      refine wpOpIn_mono (fun a' w' h3 => ⟨h3.2.1, ih (listed.setIfInBounds j true) a' w' hfree' (ready_mono hr (Ne.symm hji)) h3.1 h3.2.1 ?_⟩) h2
      rw [Array.setIfInBounds_comm _ _ hji]
      exact h3.2.2
def sinkZ (md : Region.Mode) (ops : Array Oper) (z : Nat) : Bool := Nat.blt z ops.size && match ops[z]? with
  | some o => (List.range ops.size).all fun i => Nat.beq i z || o.after.any fun e => Region.binds md e && Nat.beq e.on i
  | none => false
theorem sinkZ_listed (h : sinkZ md ops z = true) {listed : Array Bool} (hz : z ∈ Region.ready md ops listed) {i : Nat} (hi : i < ops.size) (hne : i ≠ z) : listed.getD i false = true := by
  obtain ⟨_, o, ho, hall⟩ := mem_ready.1 hz
  simp only [sinkZ, Bool.and_eq_true, ho] at h
  have := List.all_eq_true.1 h.2 i (List.mem_range.2 hi)
  simp only [Bool.or_eq_true] at this
  rcases this with h' | h'
  · exact absurd (Nat.eq_of_beq_eq_true h') hne
  · obtain ⟨e, he, hb⟩ := Array.any_eq_true'.1 h'
    simp only [Bool.and_eq_true] at hb
    have := hall e he hb.1
    rwa [Nat.eq_of_beq_eq_true hb.2] at this
theorem ready_lt {listed : Array Bool} {i : Nat} (h : i ∈ Region.ready md ops listed) : i < ops.size := by
  unfold Region.ready at h
  exact List.mem_range.1 (List.mem_filter.1 h).1
theorem sinkZ_one (h : sinkZ md ops z = true) {listed : Array Bool} (hz : z ∈ Region.ready md ops listed) : ∀ i ∈ Region.ready md ops listed, i = z := fun i hi => Classical.byContradiction fun hne => by
  have h1 := sinkZ_listed h hz (ready_lt hi) hne
  have h2 := (mem_ready.1 hi).1
  rcases Nat.lt_or_ge i listed.size with h' | h'
  · simp [h'] at h1 h2; rw [h2] at h1; cases h1
  · simp [Array.getElem?_eq_none h'] at h1
theorem ready_nodup {listed : Array Bool} : (Region.ready md ops listed).Nodup := by
  unfold Region.ready; exact List.nodup_range.filter _
theorem ready_one (h : sinkZ md ops z = true) {listed : Array Bool} (hz : z ∈ Region.ready md ops listed) : Region.ready md ops listed = [z] := by
  have h1 := sinkZ_one h hz
  have h2 := ready_nodup (md := md) (ops := ops) (listed := listed)
  generalize Region.ready md ops listed = l at *
  match l with
  | [] => cases hz
  | [x] => rw [h1 x (by simp)]
  | x :: y :: r =>
    have hx := h1 x (by simp)
    have hy := h1 y (by simp)
    subst hx; subst hy
    simp at h2
theorem ready_none (h : sinkZ md ops z = true) {listed : Array Bool} (hz : z ∈ Region.ready md ops listed) : Region.ready md ops (listed.setIfInBounds z true) = [] := by
  refine List.eq_nil_iff_forall_not_mem.2 fun i hi => ?_
  have hu := (mem_ready.1 hi).1
  by_cases hne : i = z
  · subst hne
    rcases Nat.lt_or_ge i listed.size with h' | h'
    · simp [h'] at hu
    · simp [Array.getElem?_eq_none (show (listed.setIfInBounds i true).size ≤ i by simpa using h')] at hu
  · rw [getD_set_ne true (Ne.symm hne)] at hu
    have h1 := sinkZ_listed h hz (ready_lt hi) hne
    rcases Nat.lt_or_ge i listed.size with h' | h'
    · simp [h'] at h1 hu; rw [hu] at h1; cases h1
    · simp [Array.getElem?_eq_none h'] at h1
theorem wpAnyIn_done' {listed : Array Bool} {a : Act} {w : World} (hr : Region.ready md ops listed = []) (h : Q .normal a w) : ∀ fuel, wpAnyIn (FR ro) 0 P md ops Q fuel listed a w
  | 0 => ⟨hr, h⟩
  | _ + 1 => ⟨fun _ => h, by rw [hr]; simp⟩
theorem wpAnyIn_of_tail (h : sinkZ md ops z = true) : ∀ (fuel : Nat) (listed : Array Bool) (a : Act) (w : World), wpAnyT ro P md ops Q S z (wpOpIn (FR ro) 0 P ops Q z (Q .normal)) fuel listed a w → wpAnyIn (FR ro) 0 P md ops Q (fuel + 1) listed a w
  | 0, listed, a, w, H => by
    have hz : z ∈ Region.ready md ops listed := by rw [H.1]; simp
    refine ⟨fun h0 => (by rw [H.1] at h0; cases h0), fun i hi => ?_⟩
    obtain rfl := sinkZ_one h hz i hi
    exact wpOpIn_mono (fun a' w' h' => wpAnyIn_done' (ready_none h hz) h' 0) H.2
  | fuel + 1, listed, a, w, H => by
    refine ⟨fun h0 => absurd h0 H.2.1, fun i hi => ?_⟩
    by_cases hne : i = z
    · subst hne
      exact wpOpIn_mono (fun a' w' h' => wpAnyIn_done' (ready_none h hi) h' _) (H.1 (ready_one h hi))
    · exact wpOpIn_mono (fun a' w' h' => wpAnyIn_of_tail h fuel _ a' w' h'.2) (H.2.2 i hi hne)
end tail
def Gt (P : Program) (w0 : World) (F0 : Nat → Prop) (K L : List Res) (ops : Array Oper) (Q : Exit → Act → World → Prop) (z fuel : Nat) (listed : Array Bool) (n : Fm) (env : Env) : Prop :=
  ∀ w, St w0 F0 L w → wpAnyT n.ro P .any ops Q (St w0 F0 K) z (wpOpIn (FR n.ro) 0 P ops Q z (Q .normal)) fuel listed (fr n env) w
def NextT (P : Program) (w0 : World) (F0 : Nat → Prop) (K : List Res) (ops : Array Oper) (Q : Exit → Act → World → Prop) (z fuel : Nat) (listed : Array Bool) (n : Fm) (a : Act) (w : World) : Prop :=
  St w0 F0 K w ∧ wpAnyT n.ro P .any ops Q (St w0 F0 K) z (wpOpIn (FR n.ro) 0 P ops Q z (Q .normal)) fuel listed a w
section heldz
variable {P : Program} {w0 : World} {F0 : Nat → Prop} {K L : List Res} {Q : Exit → Act → World → Prop} {n : Fm} {env : Env} {ops : Array Oper} {listed : Array Bool} {fuel z : Nat}
theorem gc_regionZ {id : Nat} {l : List Oper} (z : Nat) (K : List Res) (h : Gt P w0 F0 K L l.toArray Q z (l.length - 1) (Array.replicate l.length false) n env) (hm : P.follows .mixedOrders = true := by kernel_rfl) (hz : sinkZ .any l.toArray z = true := by kernel_rfl) : Gc P w0 F0 L (.region id l.toArray true) Q n env := fun w hw =>
  wpIn_region_any hm (by
    have hs := hz
    simp only [sinkZ, Bool.and_eq_true, Nat.blt_eq, List.size_toArray] at hs
    have := wpAnyIn_of_tail hz _ _ _ _ (h _ (hw.drawn (w.drawn + 1)))
    rw [show l.length - 1 + 1 = l.toArray.size by simp; omega] at this
    simpa using this)
theorem yps (i : Nat) {t : Tmp} {op : Op} {ty : TypeId} {pos : String} {af : Array Edge} {gd : Option (Nat × Bool)} {v : Value} {L' : List Res} (hi : ops[i]? = some ⟨some t, op, ty, pos, af, gd⟩) (hR : Runs P w0 F0 K n env ⟨some t, op, ty, pos, af, gd⟩ v)
    (k : Gt P w0 F0 K L ops Q z fuel (listed.setIfInBounds i true) n ((t, v) :: env)) (hw : Wt ops n env ⟨some t, op, ty, pos, af, gd⟩ true := by first | exact wt0 rfl | exact wtgT rfl rfl rfl rfl) (hsel : Sel L K L' := by repeat (first | exact Sel.nil | (apply Sel.cons; · (repeat (first | exact Pick.here | apply Pick.there)))))
    (hs : Region.noSelect ops = true := by kernel_rfl) (hd : noDef ops = true := by kernel_rfl) (hf : Region.free .any ops listed i = true := by kernel_rfl) (hr : (Region.ready .any ops listed).contains i = true := by kernel_rfl) (hz : Nat.beq i z = false := by kernel_rfl)
    (hQ : ∀ c a w, Q (.panic c) (a.put (some t) v) w → Q (.panic c) a w := by exact fun _ _ _ h => h) : Gt P w0 F0 K L ops Q z (fuel + 1) listed n env := fun w hst =>
  wpAnyT_first hi (fun e => by subst e; simp at hz) (Region.noSelect_spec hs) hd hQ fuel listed _ _ (Region.free_spec hi hf) (by simpa using hr) (.inl ⟨hw, fun w' hw' => by rw [fr_eval]; exact hR w' hw'⟩) (hst.sel hsel) (by rw [fr_put]; exact k w hst)
theorem yos (i : Nat) {o : Oper} (hi : ops[i]? = some o) (k : Gl P w0 F0 L ops (Exit.then (NextT P w0 F0 K ops Q z fuel (listed.setIfInBounds i true) n) Q) [o] n env) (hr : Region.ready .any ops listed = [i] := by kernel_rfl) (hz : Nat.beq i z = false := by kernel_rfl) : Gt P w0 F0 K L ops Q z (fuel + 1) listed n env := fun w hst =>
  ⟨fun h => (by rw [hr] at h; simp only [List.cons.injEq, and_true] at h; subst h; simp at hz), by rw [hr]; simp, fun j hj _ => by
    rw [hr] at hj
    obtain rfl : j = i := by simpa using hj
    exact wpOpIn_of_list hi (k w hst)⟩
theorem yxs {L' : List Res} {Q' : Exit → Act → World → Prop} (k : Gt P w0 F0 K L ops Q z fuel listed n env) (hsel : Sel L K L' := by repeat (first | exact Sel.nil | (apply Sel.cons; · (repeat (first | exact Pick.here | apply Pick.there))))) : Gl P w0 F0 L ops (Exit.then (NextT P w0 F0 K ops Q z fuel listed n) Q') [] n env := gl_nil fun w hw => ⟨hw.sel hsel, k w hw⟩
theorem yzs {o : Oper} (hi : ops[z]? = some o) (k : Gl P w0 F0 L ops Q [o] n env) (hr : Region.ready .any ops listed = [z] := by kernel_rfl) : Gt P w0 F0 K L ops Q z 0 listed n env := fun w hst => ⟨hr, wpOpIn_of_list' hi (k w hst)⟩
end heldz
section join
variable {P : Program} {w0 : World} {F0 : Nat → Prop} {L : List Res} {Q : Exit → Act → World → Prop} {n : Fm} {env : Env}
def JoinK {α : Type} (w0 : World) (F0 : Nat → Prop) (Ls : α → List Res) (slots : α → Env) (junk : List Nat) (n : Fm) (env : Env) (act : Act) (w : World) : Prop :=
  ∃ a u, act = fr n (headE slots junk env a u) ∧ St w0 F0 (Ls a) w
theorem gc_join {α : Type} {x y : Code} (Ls : α → List Res) (slots : α → Env) (junk : List Nat) (hx : Gc P w0 F0 L x (Exit.then (JoinK w0 F0 Ls slots junk n env) Q) n env)
    (k : ∀ a u, Gc P w0 F0 (Ls a) y Q n (headE slots junk env a u)) : Gc P w0 F0 L (.seq x y) Q n env := fun w hw => by
  have h := hx w hw
  refine wpIn_seq (wpIn_mono h fun e act w' hq => ?_)
  cases e with
  | normal =>
    obtain ⟨a, u, rfl, hs⟩ := hq
    exact k a u w' hs
  | _ => exact hq
theorem zjn {α : Type} {Ls : α → List Res} {slots : α → Env} {junk : List Nat} {env0 : Env} {f : List Nat} (a : α) (hL : ∀ w, St w0 F0 L w → St w0 F0 (Ls a) w)
    (hf : Front env0 env f := by repeat (first | exact Front.here | apply Front.there)) (hs : (slots a).map (fun p => Env.get env p.1) = (slots a).map Prod.snd := by kernel_rfl)
    (hk : f.all (fun t => ((slots a).map Prod.fst).contains t || junk.contains t) = true := by kernel_rfl) :
    Gx w0 F0 L (Exit.then (JoinK w0 F0 Ls slots junk n env0) Q) .normal n env := fun w hw => ⟨a, Env.get env, fr_ext fun t _ => (get_over (fun p hp => List.map_inj_left.1 hs p hp) fun h1 => get_over (fun p hp => by obtain ⟨j, _, rfl⟩ := List.mem_map.1 hp; rfl) fun h2 => (by
    have h2' : t ∉ junk := fun hm => h2 (t, Env.get env t) (List.mem_map.2 ⟨t, hm, rfl⟩) rfl
    have h1' : t ∉ (slots a).map Prod.fst := fun hm => by
      obtain ⟨p, hp, rfl⟩ := List.mem_map.1 hm
      exact h1 p hp rfl
    exact (hf.get (t := t) (fun hm => by
      have := List.all_eq_true.1 hk t hm
      simp only [Bool.or_eq_true, List.contains_iff_mem] at this
      exact this.elim h1' h2')).symm)).symm, hL w hw⟩
end join
end
section
structure WS where
  err : Nat
  bs : List UInt8
def byteAt (n : Int) (i : Nat) : UInt8 := UInt8.ofNat (n / 2 ^ (8 * i) % 256).toNat
def beN (n : Int) (wd : Nat) : List UInt8 := (List.range wd).map fun j => byteAt n (wd - 1 - j)
def wFail (k : Nat) (s : WS) : WS := if s.err = 0 then { s with err := k } else s
def wFix (b : List UInt8) (s : WS) : WS := if s.err = 0 then { s with bs := s.bs ++ b } else s
def wNum (n : Int) (wd : Nat) (s : WS) : WS := if n < 0 ∨ (wd < 8 ∧ 2 ^ (8 * wd) ≤ n) then wFail 1 s else wFix (beN n wd) s
theorem beN_length (n : Int) (wd : Nat) : (beN n wd).length = wd := by simp [beN]
theorem wFail_bs (k : Nat) (s : WS) : (wFail k s).bs = s.bs := by unfold wFail; split <;> rfl
theorem wFix_len (b : List UInt8) (s : WS) : (wFix b s).bs.length ≤ s.bs.length + b.length := by unfold wFix; split <;> simp
theorem wNum_len (n : Int) (wd : Nat) (s : WS) : (wNum n wd s).bs.length ≤ s.bs.length + wd := by
  unfold wNum; split
  · rw [wFail_bs]; omega
  · have := wFix_len (beN n wd) s; rw [beN_length] at this; exact this
end
section
@[irreducible] def eV (TE : TypeId) (ea : Nat → Addr) : Nat → Value
  | 0 => .nilIface
  | k + 1 => .iface TE (.pointer (some (ea (k + 1))))
theorem eV_one (TE : TypeId) (ea : Nat → Addr) (k : Nat) : (eV TE ea k).oneCell' = true := by cases k <;> (unfold eV; rfl)
instance {TE : TypeId} {ea : Nat → Addr} {k : Nat} : One1 (eV TE ea k) := ⟨eV_one TE ea k⟩
theorem eV_zero (TE : TypeId) (ea : Nat → Addr) : eV TE ea 0 = .nilIface := by unfold eV; rfl
theorem run_equal_nil {P : Program} {T TE k : Nat} {ea : Nat → Addr} (ht : ifcT P T = true) (w : World) : (Op.equal T (eV TE ea k) .nilIface).run P w = .ok (decide (k = 0)) w := by
  obtain ⟨ms, hu⟩ := run_ifcT ht
  cases k with
  | zero =>
    have h : ∀ d : Nat, (Op.equalIn (d + 1) T .nilIface .nilIface).run P w = .ok true w := fun d => by simp [Op.equalIn, run_underlying hu]
    unfold eV
    simp [Op.equal, Op.maxDepth, h 9999]
  | succ k =>
    have h : ∀ d : Nat, (Op.equalIn (d + 1) T (.iface TE (.pointer (some (ea (k + 1))))) .nilIface).run P w = .ok false w := fun d => by simp [Op.equalIn, run_underlying hu]
    unfold eV
    simp [Op.equal, Op.maxDepth, h 9999]
section
variable {P : Program} {w0 : World} {F0 : Nat → Prop} {L : List Res} {n : Fm} {env : Env} {d : Option Tmp} {ty : TypeId} {pos : String} {af : Array Edge} {gd : Option (Nat × Bool)} {T T' : TypeId} {x : Operand} {TE k : Nat} {ea : Nat → Addr}
theorem r_eqnil (hx : ev n env x = eV TE ea k) (ht : ifcT P T = true) : Runs P w0 F0 L n env ⟨d, .binOp .eql T x (.const .nilIface) T', ty, pos, af, gd⟩ (.bool (decide (k = 0))) := fun w _ => by
  have h := run_equal_nil (P := P) (TE := TE) (k := k) (ea := ea) ht w
  have hg : (eqGuard .eql T x (.const .nilIface) (ev n env x) .nilIface).run P w = .ok () w := by
    rw [hx]; cases k <;> (unfold eV; simp [eqGuard])
  have hb : (binOp .eql T (ev n env x) .nilIface).run P w = .ok (.bool (decide (k = 0))) w := by
    rw [hx]; cases k <;> (unfold eV at h ⊢; simp only [binOp]; simp [h])
  simp only [execOp, Sem.run_bind]
  rw [show ev n env (.const .nilIface) = .nilIface from rfl, hg, Result.andThen_ok, hb]
  rfl
theorem r_nenil (hx : ev n env x = eV TE ea k) (ht : ifcT P T = true) : Runs P w0 F0 L n env ⟨d, .binOp .neq T x (.const .nilIface) T', ty, pos, af, gd⟩ (.bool (!decide (k = 0))) := fun w _ => by
  have h := run_equal_nil (P := P) (TE := TE) (k := k) (ea := ea) ht w
  have hg : (eqGuard .neq T x (.const .nilIface) (ev n env x) .nilIface).run P w = .ok () w := by
    rw [hx]; cases k <;> (unfold eV; simp [eqGuard])
  have hb : (binOp .neq T (ev n env x) .nilIface).run P w = .ok (.bool (!decide (k = 0))) w := by
    rw [hx]; cases k <;> (unfold eV at h ⊢; simp only [binOp]; simp [h])
  simp only [execOp, Sem.run_bind]
  rw [show ev n env (.const .nilIface) = .nilIface from rfl, hg, Result.andThen_ok, hb]
  rfl
end
def WrR (TE : TypeId) (ea : Nat → Addr) (g : Nat) (s : WS) : Res := exR fun p : Option Addr × Nat => allR [blk g 184 [eV TE ea s.err, .slice p.1 s.bs.length p.2], rowR 5 1 p.1 s.bs.length p.2 (s.bs.map B8)]
theorem wr_open {TE : TypeId} {ea : Nat → Addr} {g : Nat} {s : WS} {L : List Res} {w : World} {F : Nat → Prop} (h : stars (WrR TE ea g s :: L) w F) :
    ∃ a c, stars (blk g 184 [eV TE ea s.err, .slice a s.bs.length c] :: rowR 5 1 a s.bs.length c (s.bs.map B8) :: L) w F := by
  obtain ⟨⟨a, c⟩, h⟩ := stars_ex h
  exact ⟨a, c, stars_all h⟩
theorem wr_shut {TE : TypeId} {ea : Nat → Addr} {g m c k : Nat} {a : Option Addr} {xs : List Value} {s : WS} {L : List Res} {w : World} {F : Nat → Prop}
    (h : stars (blk g 184 [eV TE ea k, .slice a m c] :: rowR 5 1 a m c xs :: L) w F) (hk : k = s.err) (hm : m = s.bs.length) (hx : xs = s.bs.map B8) : stars (WrR TE ea g s :: L) w F := by
  subst hk; subst hm; subst hx
  exact stars_ex_mk (a, c) (stars_all_mk h)
theorem St.wr {w0 w : World} {F0 : Nat → Prop} {TE : TypeId} {ea : Nat → Addr} {g m c k : Nat} {a : Option Addr} {xs : List Value} {s : WS} {L : List Res}
    (h : St w0 F0 (blk g 184 [eV TE ea k, .slice a m c] :: rowR 5 1 a m c xs :: L) w) (hk : k = s.err) (hm : m = s.bs.length) (hx : xs = s.bs.map B8) : St w0 F0 (WrR TE ea g s :: L) w := by
  obtain ⟨F, hF, hst⟩ := h
  exact ⟨F, wr_shut hF hk hm hx, hst⟩
attribute [local irreducible] Gl Gc Gx Gs Runs Wt
theorem fail_ok {w : World} {F : Nat → Prop} {g T k j TE : Nat} {ea : Nat → Addr} {cs : List Value} (h : stars [blk g T (eV TE ea k :: cs)] w F) :
    Calls Tryz.prog 98 #[.pointer (some ⟨g, 0, none⟩), eV TE ea j] w (Post w F (fun _ : Unit => .tuple #[]) (fun _ => [blk g T (eV TE ea (if k = 0 then j else k) :: cs)])) := by
 refine g_enter (env := [(0, .pointer (some ⟨g, 0, none⟩)), (1, eV TE ea j)]) Tryz.func98 rfl h Tryz.ntmps98 rfl rfl ?_; refine gsr (zxm ?_); refine gp znc ?_; refine gp zfa ?_; refine gp zl ?_; refine gp (r_eqnil rfl (by kernel_rfl)) ?_; refine gnt (gif rfl (fun hc8 => ?_) (fun hc8 => ?_))
 ·refine gc_region (zxm ?_); refine zxm ?_; refine gp znc ?_; refine gp zfa ?_; refine zs1 ?_; refine gl_nil (gx_ret0' rfl ?_); rw [if_pos hc8]; exact ze ()
 ·refine gc_skip (gx_ret0' rfl ?_); rw [if_neg hc8]; exact ze ()
theorem fixed_ok {w : World} {F : Nat → Prop} {g TE : Nat} {ea : Nat → Addr} {s : WS} {n c : Nat} {a : Option Addr} {b : List UInt8} (h : stars [WrR TE ea g s] w F) (hb : RdRow w (fun k => ¬ F k) 1 a n (b.map B8)) (hl : s.bs.length + n ≤ 1099511627776) :
    Calls Tryz.prog 99 #[.pointer (some ⟨g, 0, none⟩), .slice a n c] w (Post w F (fun _ : Unit => .tuple #[]) (fun _ => [WrR TE ea g (wFix b s)])) := by
 obtain ⟨a0, c0, h'⟩ := wr_open h; have hn : n = b.length := by have := hb.1; simp at this; omega
 refine g_enter (env := [(0, .pointer (some ⟨g, 0, none⟩)), (1, .slice a n c)]) Tryz.func99 rfl h' Tryz.ntmps99 rfl rfl ?_; refine gsr (zxm ?_); refine gp znc ?_; refine gp zfa ?_; refine gp zfa ?_; refine gp zl ?_; refine gp (r_eqnil rfl (by kernel_rfl)) ?_; refine gnt (gif rfl (fun hc9 => ?_) (fun hc9 => ?_))
 ·refine gc_region (zxm ?_); refine zxm ?_; refine gp znc ?_; refine gp zfa ?_; refine gp zl ?_; refine zxm ?_; refine gl_append (wt0 rfl) rfl rfl (by repeat (first | exact Pick.here | apply Pick.there)) Ty.el_49 (fun w' hw => hw.rdOld hb) (one_B8 _) (by simp only [maxLen]; omega) (by omega) ?_; intro a1 c1; refine gp znc ?_; refine gp zfa ?_; refine zs1 ?_; refine gl_nil (gx_ret0' rfl ?_); exact fun w' hw => ⟨(), rfl, by rw [wFix, if_pos hc9]; exact St.wr (hw.z) rfl (by simp [hn]) (by simp)⟩
 ·refine gc_skip (gx_ret0' rfl ?_); exact fun w' hw => ⟨(), rfl, by rw [wFix, if_neg hc9]; exact St.wr (hw.z) rfl rfl rfl⟩
end
end Go.Proofs.YtomdanlljfikaaaGreatDoor
