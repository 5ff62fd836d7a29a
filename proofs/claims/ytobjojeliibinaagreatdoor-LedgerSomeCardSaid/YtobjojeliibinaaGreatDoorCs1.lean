/- Part 1. What is proved: see the last part: for every input the law returns true, and the input reads as it did. -/
import Derived.WalkKit
import Derived.KernelRfl
import Derived.Test.YtobjojeliibinaaGreatDoorProg
import Derived.OrdersHeld
import Derived.StillTail
import Derived.Deep.MidRow
import Derived.OrdersIn
import Derived.TacticsIn
import Derived.RangeFuncRecord
import Derived.RangeFuncSeq
import Derived.Laws.BytesArg
import Derived.ChangeKeysEq
/- The engine, part T: what the program's tables say of types and functions, as closed questions. -/
namespace Go.Proofs.YtobjojeliibinaaGreatDoor
open Go
set_option linter.unusedVariables false

/-! ### What the tables say of types -/
def szT (P : Program) (T : TypeId) : Option Nat := (P.info? T).map (·.size)
def rowT (P : Program) (T : TypeId) : Option Bool := (P.underlying T).map fun d => match d with | .struct _ | .array _ _ => true | _ => false
def zeroT (P : Program) (T : TypeId) : Option Value := (P.info? T).bind (·.zero)
def sliceT (P : Program) (T : TypeId) : Option TypeId := (P.underlying T).bind fun d => match d with | .slice e => some e | _ => none
def arrT (P : Program) (T : TypeId) : Option (Nat × TypeId) := (P.underlying T).bind fun d => match d with | .array n e => some (n, e) | _ => none
def foff (P : Program) (s f : Nat) : Option Nat := (P.underlying s).bind fun d => match d with
  | .struct fs => (fs[f]?).bind fun x => if (P.info? x.type).map (·.size) = some 0 then none else (P.info? x.type).map fun _ => x.offset
  | _ => none

def okCall (P : Program) (f : FuncId) : Bool := match P.funcs[f]? with
  | some fn => fn.body.isSome && !(fn.name == "runtime.NumGoroutine")
  | none => false

def zcT (P : Program) (T : TypeId) : Option (List Value) := (zeroT P T).map fun z => z.cells.toList
theorem zcT_some {P : Program} {T : TypeId} {cs : List Value} (h : zcT P T = some cs) : ∃ z, zeroT P T = some z ∧ z.cells.toList = cs := by
  unfold zcT at h
  cases hz : zeroT P T with
  | none => simp [hz] at h
  | some z => exact ⟨z, rfl, by simpa [hz] using h⟩
/-- A digest's sixteen zeros. -/
def zD : List Value := List.replicate 16 (.int .u8 0)

/-- The facts on an element's type that append asks. -/
structure ElemT (P : Program) (t e size bytes : Nat) : Prop where
  sl : P.underlying t = some (.slice e)
  info : ∃ i z, P.info? e = some i ∧ i.zero = some z ∧ i.size = size ∧ i.bytes = bytes ∧ z.cells.size = size
  pos : 0 < size
def elemB (P : Program) (t e size bytes : Nat) : Bool :=
  (match P.underlying t with | some (.slice e') => Nat.beq e' e | _ => false) && (match P.info? e with
    | some i => Nat.beq i.size size && Nat.beq i.bytes bytes && (match i.zero with | some z => Nat.beq z.cells.size size | none => false)
    | none => false) && Nat.blt 0 size
theorem elemT_of {P : Program} {t e size bytes : Nat} (h : elemB P t e size bytes = true) : ElemT P t e size bytes := by
  simp only [elemB, Bool.and_eq_true] at h
  obtain ⟨⟨h1, h2⟩, h3⟩ := h
  refine ⟨?_, ?_, by rwa [Nat.blt_eq] at h3⟩
  · cases hu : P.underlying t with
    | none => simp [hu] at h1
    | some dsc =>
      cases dsc <;> simp [hu] at h1
      rw [h1]
  · cases hi : P.info? e with
    | none => simp [hi] at h2
    | some i =>
      simp only [hi, Bool.and_eq_true] at h2
      obtain ⟨⟨h4, h5⟩, h6⟩ := h2
      cases hz : i.zero with
      | none => simp [hz] at h6
      | some z =>
        simp only [hz] at h6
        exact ⟨i, z, rfl, hz, Nat.eq_of_beq_eq_true h4, Nat.eq_of_beq_eq_true h5, Nat.eq_of_beq_eq_true h6⟩

def placesT (P : Program) (T : TypeId) : Option (List (Nat × Nat)) := (P.underlying T).bind fun d => match d with
  | .struct fs => fs.toList.mapM fun f => (szT P f.type).map fun s => (f.offset, s)
  | _ => none
def ifcT (P : Program) (T : TypeId) : Bool := match P.underlying T with | some (.interface _) => true | _ => false
theorem run_ifcT {P : Program} {T : TypeId} (h : ifcT P T = true) : ∃ ms, P.underlying T = some (.interface ms) := by
  unfold ifcT at h
  cases hu : P.underlying T with
  | none => simp [hu] at h
  | some d => cases d <;> simp [hu] at h ⊢

/-! ### The same, found by instance -/
class FO (P : Program) (s f : Nat) (k : outParam Nat) : Prop where h : foff P s f = some k
class SZ (P : Program) (T : Nat) (s : outParam Nat) : Prop where h : szT P T = some s
class RO (P : Program) (T : Nat) : Prop where h : rowT P T = some false
class RA (P : Program) (T : Nat) : Prop where h : rowT P T = some true
class ZC (P : Program) (T : Nat) (cs : outParam (List Value)) : Prop where h : zcT P T = some cs
class SLT (P : Program) (T : Nat) (e : outParam Nat) : Prop where h : sliceT P T = some e
class ART (P : Program) (T : Nat) (m e : outParam Nat) : Prop where h : arrT P T = some (m, e)
class UNT (P : Program) (T : Nat) (d : outParam TypeDesc) : Prop where h : P.underlying T = some d
class PLT (P : Program) (T : Nat) (pl : outParam (List (Nat × Nat))) : Prop where h : placesT P T = some pl
class CLT (P : Program) (f : Nat) : Prop where h : okCall P f = true
class ELT (P : Program) (t : Nat) (e size bytes : outParam Nat) : Prop where h : ElemT P t e size bytes
class IFT (P : Program) (T : Nat) : Prop where h : ifcT P T = true
end Go.Proofs.YtobjojeliibinaaGreatDoor

/- Closed facts of the translation's tables, by program (facts.py). -/
namespace Go.Proofs.YtobjojeliibinaaGreatDoor
open Go
namespace Ty

theorem sz_3 : szT Tryz.prog 3 = some 1 := by kernel_rfl
instance : SZ Tryz.prog 3 1 := ⟨sz_3⟩
theorem row_3 : rowT Tryz.prog 3 = some false := by kernel_rfl
instance : RO Tryz.prog 3 := ⟨row_3⟩
theorem sz_4 : szT Tryz.prog 4 = some 1 := by kernel_rfl
instance : SZ Tryz.prog 4 1 := ⟨sz_4⟩
theorem row_4 : rowT Tryz.prog 4 = some false := by kernel_rfl
instance : RO Tryz.prog 4 := ⟨row_4⟩
theorem sz_5 : szT Tryz.prog 5 = some 1 := by kernel_rfl
instance : SZ Tryz.prog 5 1 := ⟨sz_5⟩
theorem row_5 : rowT Tryz.prog 5 = some false := by kernel_rfl
instance : RO Tryz.prog 5 := ⟨row_5⟩
theorem sz_9 : szT Tryz.prog 9 = some 1 := by kernel_rfl
instance : SZ Tryz.prog 9 1 := ⟨sz_9⟩
theorem row_9 : rowT Tryz.prog 9 = some false := by kernel_rfl
instance : RO Tryz.prog 9 := ⟨row_9⟩
theorem sz_23 : szT Tryz.prog 23 = some 16 := by kernel_rfl
instance : SZ Tryz.prog 23 16 := ⟨sz_23⟩
theorem row_23 : rowT Tryz.prog 23 = some true := by kernel_rfl
instance : RA Tryz.prog 23 := ⟨row_23⟩
theorem sz_24 : szT Tryz.prog 24 = some 1 := by kernel_rfl
instance : SZ Tryz.prog 24 1 := ⟨sz_24⟩
theorem row_24 : rowT Tryz.prog 24 = some false := by kernel_rfl
instance : RO Tryz.prog 24 := ⟨row_24⟩
theorem sz_26 : szT Tryz.prog 26 = some 19 := by kernel_rfl
instance : SZ Tryz.prog 26 19 := ⟨sz_26⟩
theorem row_26 : rowT Tryz.prog 26 = some true := by kernel_rfl
instance : RA Tryz.prog 26 := ⟨row_26⟩
theorem sz_27 : szT Tryz.prog 27 = some 1 := by kernel_rfl
instance : SZ Tryz.prog 27 1 := ⟨sz_27⟩
theorem row_27 : rowT Tryz.prog 27 = some false := by kernel_rfl
instance : RO Tryz.prog 27 := ⟨row_27⟩
theorem sz_28 : szT Tryz.prog 28 = some 1 := by kernel_rfl
instance : SZ Tryz.prog 28 1 := ⟨sz_28⟩
theorem row_28 : rowT Tryz.prog 28 = some false := by kernel_rfl
instance : RO Tryz.prog 28 := ⟨row_28⟩
theorem sz_30 : szT Tryz.prog 30 = some 39 := by kernel_rfl
instance : SZ Tryz.prog 30 39 := ⟨sz_30⟩
theorem row_30 : rowT Tryz.prog 30 = some true := by kernel_rfl
instance : RA Tryz.prog 30 := ⟨row_30⟩
theorem sz_36 : szT Tryz.prog 36 = some 1 := by kernel_rfl
instance : SZ Tryz.prog 36 1 := ⟨sz_36⟩
theorem row_36 : rowT Tryz.prog 36 = some false := by kernel_rfl
instance : RO Tryz.prog 36 := ⟨row_36⟩
theorem sz_38 : szT Tryz.prog 38 = some 1 := by kernel_rfl
instance : SZ Tryz.prog 38 1 := ⟨sz_38⟩
theorem row_38 : rowT Tryz.prog 38 = some false := by kernel_rfl
instance : RO Tryz.prog 38 := ⟨row_38⟩
theorem sz_41 : szT Tryz.prog 41 = some 1 := by kernel_rfl
instance : SZ Tryz.prog 41 1 := ⟨sz_41⟩
theorem row_41 : rowT Tryz.prog 41 = some false := by kernel_rfl
instance : RO Tryz.prog 41 := ⟨row_41⟩
theorem sz_46 : szT Tryz.prog 46 = some 1 := by kernel_rfl
instance : SZ Tryz.prog 46 1 := ⟨sz_46⟩
theorem row_46 : rowT Tryz.prog 46 = some false := by kernel_rfl
instance : RO Tryz.prog 46 := ⟨row_46⟩
theorem sz_47 : szT Tryz.prog 47 = some 1 := by kernel_rfl
instance : SZ Tryz.prog 47 1 := ⟨sz_47⟩
theorem row_47 : rowT Tryz.prog 47 = some false := by kernel_rfl
instance : RO Tryz.prog 47 := ⟨row_47⟩
theorem sz_49 : szT Tryz.prog 49 = some 18 := by kernel_rfl
instance : SZ Tryz.prog 49 18 := ⟨sz_49⟩
theorem row_49 : rowT Tryz.prog 49 = some true := by kernel_rfl
instance : RA Tryz.prog 49 := ⟨row_49⟩
theorem sz_52 : szT Tryz.prog 52 = some 1 := by kernel_rfl
instance : SZ Tryz.prog 52 1 := ⟨sz_52⟩
theorem row_52 : rowT Tryz.prog 52 = some false := by kernel_rfl
instance : RO Tryz.prog 52 := ⟨row_52⟩
theorem sz_55 : szT Tryz.prog 55 = some 1 := by kernel_rfl
instance : SZ Tryz.prog 55 1 := ⟨sz_55⟩
theorem row_55 : rowT Tryz.prog 55 = some false := by kernel_rfl
instance : RO Tryz.prog 55 := ⟨row_55⟩
theorem sz_56 : szT Tryz.prog 56 = some 1 := by kernel_rfl
instance : SZ Tryz.prog 56 1 := ⟨sz_56⟩
theorem row_56 : rowT Tryz.prog 56 = some false := by kernel_rfl
instance : RO Tryz.prog 56 := ⟨row_56⟩
theorem sz_58 : szT Tryz.prog 58 = some 3 := by kernel_rfl
instance : SZ Tryz.prog 58 3 := ⟨sz_58⟩
theorem row_58 : rowT Tryz.prog 58 = some true := by kernel_rfl
instance : RA Tryz.prog 58 := ⟨row_58⟩
theorem sz_59 : szT Tryz.prog 59 = some 1 := by kernel_rfl
instance : SZ Tryz.prog 59 1 := ⟨sz_59⟩
theorem row_59 : rowT Tryz.prog 59 = some false := by kernel_rfl
instance : RO Tryz.prog 59 := ⟨row_59⟩
theorem sz_60 : szT Tryz.prog 60 = some 1 := by kernel_rfl
instance : SZ Tryz.prog 60 1 := ⟨sz_60⟩
theorem row_60 : rowT Tryz.prog 60 = some false := by kernel_rfl
instance : RO Tryz.prog 60 := ⟨row_60⟩
theorem sz_62 : szT Tryz.prog 62 = some 21 := by kernel_rfl
instance : SZ Tryz.prog 62 21 := ⟨sz_62⟩
theorem row_62 : rowT Tryz.prog 62 = some true := by kernel_rfl
instance : RA Tryz.prog 62 := ⟨row_62⟩
theorem sz_81 : szT Tryz.prog 81 = some 2 := by kernel_rfl
instance : SZ Tryz.prog 81 2 := ⟨sz_81⟩
theorem row_81 : rowT Tryz.prog 81 = some true := by kernel_rfl
instance : RA Tryz.prog 81 := ⟨row_81⟩
theorem sz_83 : szT Tryz.prog 83 = some 2 := by kernel_rfl
instance : SZ Tryz.prog 83 2 := ⟨sz_83⟩
theorem row_83 : rowT Tryz.prog 83 = some true := by kernel_rfl
instance : RA Tryz.prog 83 := ⟨row_83⟩
theorem sz_86 : szT Tryz.prog 86 = some 1 := by kernel_rfl
instance : SZ Tryz.prog 86 1 := ⟨sz_86⟩
theorem row_86 : rowT Tryz.prog 86 = some false := by kernel_rfl
instance : RO Tryz.prog 86 := ⟨row_86⟩
theorem sz_90 : szT Tryz.prog 90 = some 6 := by kernel_rfl
instance : SZ Tryz.prog 90 6 := ⟨sz_90⟩
theorem row_90 : rowT Tryz.prog 90 = some true := by kernel_rfl
instance : RA Tryz.prog 90 := ⟨row_90⟩
theorem sz_91 : szT Tryz.prog 91 = some 1 := by kernel_rfl
instance : SZ Tryz.prog 91 1 := ⟨sz_91⟩
theorem row_91 : rowT Tryz.prog 91 = some false := by kernel_rfl
instance : RO Tryz.prog 91 := ⟨row_91⟩
theorem sz_97 : szT Tryz.prog 97 = some 58 := by kernel_rfl
instance : SZ Tryz.prog 97 58 := ⟨sz_97⟩
theorem row_97 : rowT Tryz.prog 97 = some true := by kernel_rfl
instance : RA Tryz.prog 97 := ⟨row_97⟩
theorem sz_102 : szT Tryz.prog 102 = some 1 := by kernel_rfl
instance : SZ Tryz.prog 102 1 := ⟨sz_102⟩
theorem row_102 : rowT Tryz.prog 102 = some false := by kernel_rfl
instance : RO Tryz.prog 102 := ⟨row_102⟩
theorem sz_103 : szT Tryz.prog 103 = some 2 := by kernel_rfl
instance : SZ Tryz.prog 103 2 := ⟨sz_103⟩
theorem row_103 : rowT Tryz.prog 103 = some true := by kernel_rfl
instance : RA Tryz.prog 103 := ⟨row_103⟩
theorem sz_104 : szT Tryz.prog 104 = some 1 := by kernel_rfl
instance : SZ Tryz.prog 104 1 := ⟨sz_104⟩
theorem row_104 : rowT Tryz.prog 104 = some false := by kernel_rfl
instance : RO Tryz.prog 104 := ⟨row_104⟩
theorem sz_108 : szT Tryz.prog 108 = some 64 := by kernel_rfl
instance : SZ Tryz.prog 108 64 := ⟨sz_108⟩
theorem row_108 : rowT Tryz.prog 108 = some true := by kernel_rfl
instance : RA Tryz.prog 108 := ⟨row_108⟩
theorem sz_112 : szT Tryz.prog 112 = some 1 := by kernel_rfl
instance : SZ Tryz.prog 112 1 := ⟨sz_112⟩
theorem row_112 : rowT Tryz.prog 112 = some false := by kernel_rfl
instance : RO Tryz.prog 112 := ⟨row_112⟩
theorem sz_125 : szT Tryz.prog 125 = some 1 := by kernel_rfl
instance : SZ Tryz.prog 125 1 := ⟨sz_125⟩
theorem row_125 : rowT Tryz.prog 125 = some false := by kernel_rfl
instance : RO Tryz.prog 125 := ⟨row_125⟩
theorem sz_127 : szT Tryz.prog 127 = some 6 := by kernel_rfl
instance : SZ Tryz.prog 127 6 := ⟨sz_127⟩
theorem row_127 : rowT Tryz.prog 127 = some true := by kernel_rfl
instance : RA Tryz.prog 127 := ⟨row_127⟩
theorem sz_138 : szT Tryz.prog 138 = some 3 := by kernel_rfl
instance : SZ Tryz.prog 138 3 := ⟨sz_138⟩
theorem row_138 : rowT Tryz.prog 138 = some true := by kernel_rfl
instance : RA Tryz.prog 138 := ⟨row_138⟩
theorem sz_140 : szT Tryz.prog 140 = some 4 := by kernel_rfl
instance : SZ Tryz.prog 140 4 := ⟨sz_140⟩
theorem row_140 : rowT Tryz.prog 140 = some true := by kernel_rfl
instance : RA Tryz.prog 140 := ⟨row_140⟩
theorem sz_146 : szT Tryz.prog 146 = some 1 := by kernel_rfl
instance : SZ Tryz.prog 146 1 := ⟨sz_146⟩
theorem row_146 : rowT Tryz.prog 146 = some false := by kernel_rfl
instance : RO Tryz.prog 146 := ⟨row_146⟩
theorem sz_149 : szT Tryz.prog 149 = some 19 := by kernel_rfl
instance : SZ Tryz.prog 149 19 := ⟨sz_149⟩
theorem row_149 : rowT Tryz.prog 149 = some true := by kernel_rfl
instance : RA Tryz.prog 149 := ⟨row_149⟩
theorem sz_151 : szT Tryz.prog 151 = some 55 := by kernel_rfl
instance : SZ Tryz.prog 151 55 := ⟨sz_151⟩
theorem row_151 : rowT Tryz.prog 151 = some true := by kernel_rfl
instance : RA Tryz.prog 151 := ⟨row_151⟩
theorem sz_159 : szT Tryz.prog 159 = some 17 := by kernel_rfl
instance : SZ Tryz.prog 159 17 := ⟨sz_159⟩
theorem row_159 : rowT Tryz.prog 159 = some true := by kernel_rfl
instance : RA Tryz.prog 159 := ⟨row_159⟩
theorem sz_169 : szT Tryz.prog 169 = some 1 := by kernel_rfl
instance : SZ Tryz.prog 169 1 := ⟨sz_169⟩
theorem row_169 : rowT Tryz.prog 169 = some false := by kernel_rfl
instance : RO Tryz.prog 169 := ⟨row_169⟩
theorem sz_171 : szT Tryz.prog 171 = some 2 := by kernel_rfl
instance : SZ Tryz.prog 171 2 := ⟨sz_171⟩
theorem row_171 : rowT Tryz.prog 171 = some true := by kernel_rfl
instance : RA Tryz.prog 171 := ⟨row_171⟩
theorem sz_173 : szT Tryz.prog 173 = some 1 := by kernel_rfl
instance : SZ Tryz.prog 173 1 := ⟨sz_173⟩
theorem row_173 : rowT Tryz.prog 173 = some false := by kernel_rfl
instance : RO Tryz.prog 173 := ⟨row_173⟩
theorem sz_175 : szT Tryz.prog 175 = some 5 := by kernel_rfl
instance : SZ Tryz.prog 175 5 := ⟨sz_175⟩
theorem row_175 : rowT Tryz.prog 175 = some true := by kernel_rfl
instance : RA Tryz.prog 175 := ⟨row_175⟩
theorem sz_177 : szT Tryz.prog 177 = some 1 := by kernel_rfl
instance : SZ Tryz.prog 177 1 := ⟨sz_177⟩
theorem row_177 : rowT Tryz.prog 177 = some false := by kernel_rfl
instance : RO Tryz.prog 177 := ⟨row_177⟩
theorem sz_179 : szT Tryz.prog 179 = some 4 := by kernel_rfl
instance : SZ Tryz.prog 179 4 := ⟨sz_179⟩
theorem row_179 : rowT Tryz.prog 179 = some true := by kernel_rfl
instance : RA Tryz.prog 179 := ⟨row_179⟩
theorem sz_181 : szT Tryz.prog 181 = some 18 := by kernel_rfl
instance : SZ Tryz.prog 181 18 := ⟨sz_181⟩
theorem row_181 : rowT Tryz.prog 181 = some true := by kernel_rfl
instance : RA Tryz.prog 181 := ⟨row_181⟩
theorem sz_194 : szT Tryz.prog 194 = some 1 := by kernel_rfl
instance : SZ Tryz.prog 194 1 := ⟨sz_194⟩
theorem row_194 : rowT Tryz.prog 194 = some false := by kernel_rfl
instance : RO Tryz.prog 194 := ⟨row_194⟩
theorem sz_196 : szT Tryz.prog 196 = some 3 := by kernel_rfl
instance : SZ Tryz.prog 196 3 := ⟨sz_196⟩
theorem row_196 : rowT Tryz.prog 196 = some true := by kernel_rfl
instance : RA Tryz.prog 196 := ⟨row_196⟩
theorem sz_199 : szT Tryz.prog 199 = some 1 := by kernel_rfl
instance : SZ Tryz.prog 199 1 := ⟨sz_199⟩
theorem row_199 : rowT Tryz.prog 199 = some true := by kernel_rfl
instance : RA Tryz.prog 199 := ⟨row_199⟩
theorem sz_212 : szT Tryz.prog 212 = some 2 := by kernel_rfl
instance : SZ Tryz.prog 212 2 := ⟨sz_212⟩
theorem row_212 : rowT Tryz.prog 212 = some true := by kernel_rfl
instance : RA Tryz.prog 212 := ⟨row_212⟩
theorem sz_216 : szT Tryz.prog 216 = some 32 := by kernel_rfl
instance : SZ Tryz.prog 216 32 := ⟨sz_216⟩
theorem row_216 : rowT Tryz.prog 216 = some true := by kernel_rfl
instance : RA Tryz.prog 216 := ⟨row_216⟩
theorem sz_231 : szT Tryz.prog 231 = some 1 := by kernel_rfl
instance : SZ Tryz.prog 231 1 := ⟨sz_231⟩
theorem row_231 : rowT Tryz.prog 231 = some false := by kernel_rfl
instance : RO Tryz.prog 231 := ⟨row_231⟩
theorem sz_233 : szT Tryz.prog 233 = some 1 := by kernel_rfl
instance : SZ Tryz.prog 233 1 := ⟨sz_233⟩
theorem row_233 : rowT Tryz.prog 233 = some true := by kernel_rfl
instance : RA Tryz.prog 233 := ⟨row_233⟩
theorem sz_245 : szT Tryz.prog 245 = some 1 := by kernel_rfl
instance : SZ Tryz.prog 245 1 := ⟨sz_245⟩
theorem row_245 : rowT Tryz.prog 245 = some false := by kernel_rfl
instance : RO Tryz.prog 245 := ⟨row_245⟩
theorem sz_252 : szT Tryz.prog 252 = some 1 := by kernel_rfl
instance : SZ Tryz.prog 252 1 := ⟨sz_252⟩
theorem row_252 : rowT Tryz.prog 252 = some true := by kernel_rfl
instance : RA Tryz.prog 252 := ⟨row_252⟩
theorem sz_258 : szT Tryz.prog 258 = some 1 := by kernel_rfl
instance : SZ Tryz.prog 258 1 := ⟨sz_258⟩
theorem row_258 : rowT Tryz.prog 258 = some false := by kernel_rfl
instance : RO Tryz.prog 258 := ⟨row_258⟩
theorem sz_259 : szT Tryz.prog 259 = some 1 := by kernel_rfl
instance : SZ Tryz.prog 259 1 := ⟨sz_259⟩
theorem row_259 : rowT Tryz.prog 259 = some false := by kernel_rfl
instance : RO Tryz.prog 259 := ⟨row_259⟩
theorem sz_260 : szT Tryz.prog 260 = some 64 := by kernel_rfl
instance : SZ Tryz.prog 260 64 := ⟨sz_260⟩
theorem row_260 : rowT Tryz.prog 260 = some true := by kernel_rfl
instance : RA Tryz.prog 260 := ⟨row_260⟩
theorem sz_261 : szT Tryz.prog 261 = some 8 := by kernel_rfl
instance : SZ Tryz.prog 261 8 := ⟨sz_261⟩
theorem row_261 : rowT Tryz.prog 261 = some true := by kernel_rfl
instance : RA Tryz.prog 261 := ⟨row_261⟩
theorem sz_278 : szT Tryz.prog 278 = some 8 := by kernel_rfl
instance : SZ Tryz.prog 278 8 := ⟨sz_278⟩
theorem row_278 : rowT Tryz.prog 278 = some true := by kernel_rfl
instance : RA Tryz.prog 278 := ⟨row_278⟩
theorem sz_281 : szT Tryz.prog 281 = some 10 := by kernel_rfl
instance : SZ Tryz.prog 281 10 := ⟨sz_281⟩
theorem row_281 : rowT Tryz.prog 281 = some true := by kernel_rfl
instance : RA Tryz.prog 281 := ⟨row_281⟩
theorem sz_289 : szT Tryz.prog 289 = some 2 := by kernel_rfl
instance : SZ Tryz.prog 289 2 := ⟨sz_289⟩
theorem row_289 : rowT Tryz.prog 289 = some true := by kernel_rfl
instance : RA Tryz.prog 289 := ⟨row_289⟩
theorem sz_291 : szT Tryz.prog 291 = some 2 := by kernel_rfl
instance : SZ Tryz.prog 291 2 := ⟨sz_291⟩
theorem row_291 : rowT Tryz.prog 291 = some true := by kernel_rfl
instance : RA Tryz.prog 291 := ⟨row_291⟩
theorem sz_332 : szT Tryz.prog 332 = some 1 := by kernel_rfl
instance : SZ Tryz.prog 332 1 := ⟨sz_332⟩
theorem row_332 : rowT Tryz.prog 332 = some false := by kernel_rfl
instance : RO Tryz.prog 332 := ⟨row_332⟩
theorem sz_365 : szT Tryz.prog 365 = some 1 := by kernel_rfl
instance : SZ Tryz.prog 365 1 := ⟨sz_365⟩
theorem row_365 : rowT Tryz.prog 365 = some true := by kernel_rfl
instance : RA Tryz.prog 365 := ⟨row_365⟩
theorem zc_3 : zcT Tryz.prog 3 = some ([.int .i64 0]) := by kernel_rfl
instance : ZC Tryz.prog 3 ([.int .i64 0]) := ⟨zc_3⟩
theorem zc_4 : zcT Tryz.prog 4 = some ([.bool false]) := by kernel_rfl
instance : ZC Tryz.prog 4 ([.bool false]) := ⟨zc_4⟩
theorem zc_5 : zcT Tryz.prog 5 = some ([.int .u8 0]) := by kernel_rfl
instance : ZC Tryz.prog 5 ([.int .u8 0]) := ⟨zc_5⟩
theorem zc_9 : zcT Tryz.prog 9 = some ([.string ByteArray.empty]) := by kernel_rfl
instance : ZC Tryz.prog 9 ([.string ByteArray.empty]) := ⟨zc_9⟩
theorem zc_23 : zcT Tryz.prog 23 = some (zD) := by kernel_rfl
instance : ZC Tryz.prog 23 (zD) := ⟨zc_23⟩
theorem zc_24 : zcT Tryz.prog 24 = some ([.slice none 0 0]) := by kernel_rfl
instance : ZC Tryz.prog 24 ([.slice none 0 0]) := ⟨zc_24⟩
theorem zc_26 : zcT Tryz.prog 26 = some (HAppend.hAppend [.int .i64 0, .int .i64 0] (HAppend.hAppend zD ([.slice none 0 0]))) := by kernel_rfl
instance : ZC Tryz.prog 26 (HAppend.hAppend [.int .i64 0, .int .i64 0] (HAppend.hAppend zD ([.slice none 0 0]))) := ⟨zc_26⟩
theorem zc_27 : zcT Tryz.prog 27 = some ([.slice none 0 0]) := by kernel_rfl
instance : ZC Tryz.prog 27 ([.slice none 0 0]) := ⟨zc_27⟩
theorem zc_28 : zcT Tryz.prog 28 = some ([.slice none 0 0]) := by kernel_rfl
instance : ZC Tryz.prog 28 ([.slice none 0 0]) := ⟨zc_28⟩
theorem zc_30 : zcT Tryz.prog 30 = some (HAppend.hAppend [.int .i64 0, .int .i64 0] (HAppend.hAppend zD (HAppend.hAppend [.int .i64 0, .int .i64 0] (HAppend.hAppend zD ([.slice none 0 0, .slice none 0 0, .slice none 0 0]))))) := by kernel_rfl
instance : ZC Tryz.prog 30 (HAppend.hAppend [.int .i64 0, .int .i64 0] (HAppend.hAppend zD (HAppend.hAppend [.int .i64 0, .int .i64 0] (HAppend.hAppend zD ([.slice none 0 0, .slice none 0 0, .slice none 0 0]))))) := ⟨zc_30⟩
theorem zc_36 : zcT Tryz.prog 36 = some ([.pointer none]) := by kernel_rfl
instance : ZC Tryz.prog 36 ([.pointer none]) := ⟨zc_36⟩
theorem zc_38 : zcT Tryz.prog 38 = some ([.nilIface]) := by kernel_rfl
instance : ZC Tryz.prog 38 ([.nilIface]) := ⟨zc_38⟩
theorem zc_41 : zcT Tryz.prog 41 = some ([.pointer none]) := by kernel_rfl
instance : ZC Tryz.prog 41 ([.pointer none]) := ⟨zc_41⟩
theorem zc_46 : zcT Tryz.prog 46 = some ([.slice none 0 0]) := by kernel_rfl
instance : ZC Tryz.prog 46 ([.slice none 0 0]) := ⟨zc_46⟩
theorem zc_47 : zcT Tryz.prog 47 = some ([.slice none 0 0]) := by kernel_rfl
instance : ZC Tryz.prog 47 ([.slice none 0 0]) := ⟨zc_47⟩
theorem zc_49 : zcT Tryz.prog 49 = some (HAppend.hAppend zD ([.slice none 0 0, .slice none 0 0])) := by kernel_rfl
instance : ZC Tryz.prog 49 (HAppend.hAppend zD ([.slice none 0 0, .slice none 0 0])) := ⟨zc_49⟩
theorem zc_52 : zcT Tryz.prog 52 = some ([.slice none 0 0]) := by kernel_rfl
instance : ZC Tryz.prog 52 ([.slice none 0 0]) := ⟨zc_52⟩
theorem zc_55 : zcT Tryz.prog 55 = some ([.slice none 0 0]) := by kernel_rfl
instance : ZC Tryz.prog 55 ([.slice none 0 0]) := ⟨zc_55⟩
theorem zc_56 : zcT Tryz.prog 56 = some ([.slice none 0 0]) := by kernel_rfl
instance : ZC Tryz.prog 56 ([.slice none 0 0]) := ⟨zc_56⟩
theorem zc_58 : zcT Tryz.prog 58 = some ([.slice none 0 0, .slice none 0 0, .slice none 0 0]) := by kernel_rfl
instance : ZC Tryz.prog 58 ([.slice none 0 0, .slice none 0 0, .slice none 0 0]) := ⟨zc_58⟩
theorem zc_59 : zcT Tryz.prog 59 = some ([.pointer none]) := by kernel_rfl
instance : ZC Tryz.prog 59 ([.pointer none]) := ⟨zc_59⟩
theorem zc_60 : zcT Tryz.prog 60 = some ([.slice none 0 0]) := by kernel_rfl
instance : ZC Tryz.prog 60 ([.slice none 0 0]) := ⟨zc_60⟩
theorem zc_62 : zcT Tryz.prog 62 = some (HAppend.hAppend [.pointer none, .slice none 0 0, .pointer none, .pointer none, .slice none 0 0] (zD)) := by kernel_rfl
instance : ZC Tryz.prog 62 (HAppend.hAppend [.pointer none, .slice none 0 0, .pointer none, .pointer none, .slice none 0 0] (zD)) := ⟨zc_62⟩
theorem zc_81 : zcT Tryz.prog 81 = some ([.slice none 0 0, .int .i64 0]) := by kernel_rfl
instance : ZC Tryz.prog 81 ([.slice none 0 0, .int .i64 0]) := ⟨zc_81⟩
theorem zc_83 : zcT Tryz.prog 83 = some ([.int .i64 0, .int .u8 0]) := by kernel_rfl
instance : ZC Tryz.prog 83 ([.int .i64 0, .int .u8 0]) := ⟨zc_83⟩
theorem zc_86 : zcT Tryz.prog 86 = some ([.slice none 0 0]) := by kernel_rfl
instance : ZC Tryz.prog 86 ([.slice none 0 0]) := ⟨zc_86⟩
theorem zc_90 : zcT Tryz.prog 90 = some ([.int .i64 0, .int .i64 0, .int .i64 0, .int .i64 0, .int .u8 0, .slice none 0 0]) := by kernel_rfl
instance : ZC Tryz.prog 90 ([.int .i64 0, .int .i64 0, .int .i64 0, .int .i64 0, .int .u8 0, .slice none 0 0]) := ⟨zc_90⟩
theorem zc_91 : zcT Tryz.prog 91 = some ([.pointer none]) := by kernel_rfl
instance : ZC Tryz.prog 91 ([.pointer none]) := ⟨zc_91⟩
theorem zc_97 : zcT Tryz.prog 97 = some (HAppend.hAppend [.int .i64 0, .int .i64 0] (HAppend.hAppend zD (HAppend.hAppend [.int .i64 0, .int .i64 0] (HAppend.hAppend zD (HAppend.hAppend [.slice none 0 0, .slice none 0 0, .slice none 0 0, .int .i64 0, .int .i64 0] (HAppend.hAppend zD ([.slice none 0 0]))))))) := by kernel_rfl
instance : ZC Tryz.prog 97 (HAppend.hAppend [.int .i64 0, .int .i64 0] (HAppend.hAppend zD (HAppend.hAppend [.int .i64 0, .int .i64 0] (HAppend.hAppend zD (HAppend.hAppend [.slice none 0 0, .slice none 0 0, .slice none 0 0, .int .i64 0, .int .i64 0] (HAppend.hAppend zD ([.slice none 0 0]))))))) := ⟨zc_97⟩
theorem zc_102 : zcT Tryz.prog 102 = some ([.slice none 0 0]) := by kernel_rfl
instance : ZC Tryz.prog 102 ([.slice none 0 0]) := ⟨zc_102⟩
theorem zc_103 : zcT Tryz.prog 103 = some ((List.replicate 2 (.int .i64 0))) := by kernel_rfl
instance : ZC Tryz.prog 103 ((List.replicate 2 (.int .i64 0))) := ⟨zc_103⟩
theorem zc_104 : zcT Tryz.prog 104 = some ([.slice none 0 0]) := by kernel_rfl
instance : ZC Tryz.prog 104 ([.slice none 0 0]) := ⟨zc_104⟩
theorem zc_108 : zcT Tryz.prog 108 = some ((List.replicate 64 (.int .u8 0))) := by kernel_rfl
instance : ZC Tryz.prog 108 ((List.replicate 64 (.int .u8 0))) := ⟨zc_108⟩
theorem zc_112 : zcT Tryz.prog 112 = some ([.slice none 0 0]) := by kernel_rfl
instance : ZC Tryz.prog 112 ([.slice none 0 0]) := ⟨zc_112⟩
theorem zc_125 : zcT Tryz.prog 125 = some ([.pointer none]) := by kernel_rfl
instance : ZC Tryz.prog 125 ([.pointer none]) := ⟨zc_125⟩
theorem zc_127 : zcT Tryz.prog 127 = some ([.pointer none, .int .i64 0, .pointer none, .slice none 0 0, .slice none 0 0, .int .i64 0]) := by kernel_rfl
instance : ZC Tryz.prog 127 ([.pointer none, .int .i64 0, .pointer none, .slice none 0 0, .slice none 0 0, .int .i64 0]) := ⟨zc_127⟩
theorem zc_138 : zcT Tryz.prog 138 = some ([.int .i64 0, .slice none 0 0, .slice none 0 0]) := by kernel_rfl
instance : ZC Tryz.prog 138 ([.int .i64 0, .slice none 0 0, .slice none 0 0]) := ⟨zc_138⟩
theorem zc_140 : zcT Tryz.prog 140 = some ([.int .i64 0, .int .i64 0, .slice none 0 0, .slice none 0 0]) := by kernel_rfl
instance : ZC Tryz.prog 140 ([.int .i64 0, .int .i64 0, .slice none 0 0, .slice none 0 0]) := ⟨zc_140⟩
theorem zc_146 : zcT Tryz.prog 146 = some ([.map none]) := by kernel_rfl
instance : ZC Tryz.prog 146 ([.map none]) := ⟨zc_146⟩
theorem zc_149 : zcT Tryz.prog 149 = some (HAppend.hAppend zD ([.map none, .slice none 0 0, .slice none 0 0])) := by kernel_rfl
instance : ZC Tryz.prog 149 (HAppend.hAppend zD ([.map none, .slice none 0 0, .slice none 0 0])) := ⟨zc_149⟩
theorem zc_151 : zcT Tryz.prog 151 = some (HAppend.hAppend zD (HAppend.hAppend [.int .i64 0, .int .i64 0] (HAppend.hAppend zD (HAppend.hAppend [.int .i64 0, .int .i64 0] (HAppend.hAppend zD ([.slice none 0 0, .slice none 0 0, .slice none 0 0])))))) := by kernel_rfl
instance : ZC Tryz.prog 151 (HAppend.hAppend zD (HAppend.hAppend [.int .i64 0, .int .i64 0] (HAppend.hAppend zD (HAppend.hAppend [.int .i64 0, .int .i64 0] (HAppend.hAppend zD ([.slice none 0 0, .slice none 0 0, .slice none 0 0])))))) := ⟨zc_151⟩
theorem zc_159 : zcT Tryz.prog 159 = some (HAppend.hAppend zD ([.int .i64 0])) := by kernel_rfl
instance : ZC Tryz.prog 159 (HAppend.hAppend zD ([.int .i64 0])) := ⟨zc_159⟩
theorem zc_169 : zcT Tryz.prog 169 = some ([.map none]) := by kernel_rfl
instance : ZC Tryz.prog 169 ([.map none]) := ⟨zc_169⟩
theorem zc_171 : zcT Tryz.prog 171 = some ([.map none, .int .i64 0]) := by kernel_rfl
instance : ZC Tryz.prog 171 ([.map none, .int .i64 0]) := ⟨zc_171⟩
theorem zc_173 : zcT Tryz.prog 173 = some ([.map none]) := by kernel_rfl
instance : ZC Tryz.prog 173 ([.map none]) := ⟨zc_173⟩
theorem zc_175 : zcT Tryz.prog 175 = some ([.slice none 0 0, .map none, .bool false, .bool false, .int .i64 0]) := by kernel_rfl
instance : ZC Tryz.prog 175 ([.slice none 0 0, .map none, .bool false, .bool false, .int .i64 0]) := ⟨zc_175⟩
theorem zc_177 : zcT Tryz.prog 177 = some ([.slice none 0 0]) := by kernel_rfl
instance : ZC Tryz.prog 177 ([.slice none 0 0]) := ⟨zc_177⟩
theorem zc_179 : zcT Tryz.prog 179 = some ([.pointer none, .int .i64 0, .int .i64 0, .slice none 0 0]) := by kernel_rfl
instance : ZC Tryz.prog 179 ([.pointer none, .int .i64 0, .int .i64 0, .slice none 0 0]) := ⟨zc_179⟩
theorem zc_181 : zcT Tryz.prog 181 = some (HAppend.hAppend zD ([.slice none 0 0, .slice none 0 0])) := by kernel_rfl
instance : ZC Tryz.prog 181 (HAppend.hAppend zD ([.slice none 0 0, .slice none 0 0])) := ⟨zc_181⟩
theorem zc_194 : zcT Tryz.prog 194 = some ([.pointer none]) := by kernel_rfl
instance : ZC Tryz.prog 194 ([.pointer none]) := ⟨zc_194⟩
theorem zc_196 : zcT Tryz.prog 196 = some ([.slice none 0 0, .int .i64 0, .int .i64 0]) := by kernel_rfl
instance : ZC Tryz.prog 196 ([.slice none 0 0, .int .i64 0, .int .i64 0]) := ⟨zc_196⟩
theorem zc_199 : zcT Tryz.prog 199 = some ([.pointer none]) := by kernel_rfl
instance : ZC Tryz.prog 199 ([.pointer none]) := ⟨zc_199⟩
theorem zc_212 : zcT Tryz.prog 212 = some ([.slice none 0 0, .int .i64 0]) := by kernel_rfl
instance : ZC Tryz.prog 212 ([.slice none 0 0, .int .i64 0]) := ⟨zc_212⟩
theorem zc_216 : zcT Tryz.prog 216 = some ((List.replicate 32 (.int .u8 0))) := by kernel_rfl
instance : ZC Tryz.prog 216 ((List.replicate 32 (.int .u8 0))) := ⟨zc_216⟩
theorem zc_231 : zcT Tryz.prog 231 = some ([.pointer none]) := by kernel_rfl
instance : ZC Tryz.prog 231 ([.pointer none]) := ⟨zc_231⟩
theorem zc_233 : zcT Tryz.prog 233 = some ([.pointer none]) := by kernel_rfl
instance : ZC Tryz.prog 233 ([.pointer none]) := ⟨zc_233⟩
theorem zc_245 : zcT Tryz.prog 245 = some ([.pointer none]) := by kernel_rfl
instance : ZC Tryz.prog 245 ([.pointer none]) := ⟨zc_245⟩
theorem zc_252 : zcT Tryz.prog 252 = some ([.pointer none]) := by kernel_rfl
instance : ZC Tryz.prog 252 ([.pointer none]) := ⟨zc_252⟩
theorem zc_258 : zcT Tryz.prog 258 = some ([.int .u64 0]) := by kernel_rfl
instance : ZC Tryz.prog 258 ([.int .u64 0]) := ⟨zc_258⟩
theorem zc_259 : zcT Tryz.prog 259 = some ([.int .u32 0]) := by kernel_rfl
instance : ZC Tryz.prog 259 ([.int .u32 0]) := ⟨zc_259⟩
theorem zc_260 : zcT Tryz.prog 260 = some ((List.replicate 64 (.int .u32 0))) := by kernel_rfl
instance : ZC Tryz.prog 260 ((List.replicate 64 (.int .u32 0))) := ⟨zc_260⟩
theorem zc_261 : zcT Tryz.prog 261 = some ((List.replicate 8 (.int .u32 0))) := by kernel_rfl
instance : ZC Tryz.prog 261 ((List.replicate 8 (.int .u32 0))) := ⟨zc_261⟩
theorem zc_278 : zcT Tryz.prog 278 = some ((List.replicate 8 (.int .u32 0))) := by kernel_rfl
instance : ZC Tryz.prog 278 ((List.replicate 8 (.int .u32 0))) := ⟨zc_278⟩
theorem zc_281 : zcT Tryz.prog 281 = some (HAppend.hAppend (List.replicate 8 (.int .u32 0)) ([.slice none 0 0, .int .u64 0])) := by kernel_rfl
instance : ZC Tryz.prog 281 (HAppend.hAppend (List.replicate 8 (.int .u32 0)) ([.slice none 0 0, .int .u64 0])) := ⟨zc_281⟩
theorem zc_289 : zcT Tryz.prog 289 = some ([.nilIface, .slice none 0 0]) := by kernel_rfl
instance : ZC Tryz.prog 289 ([.nilIface, .slice none 0 0]) := ⟨zc_289⟩
theorem zc_291 : zcT Tryz.prog 291 = some ([.nilIface, .slice none 0 0]) := by kernel_rfl
instance : ZC Tryz.prog 291 ([.nilIface, .slice none 0 0]) := ⟨zc_291⟩
theorem zc_332 : zcT Tryz.prog 332 = some ([.int .u64 0]) := by kernel_rfl
instance : ZC Tryz.prog 332 ([.int .u64 0]) := ⟨zc_332⟩
theorem zc_365 : zcT Tryz.prog 365 = some ([.string ByteArray.empty]) := by kernel_rfl
instance : ZC Tryz.prog 365 ([.string ByteArray.empty]) := ⟨zc_365⟩
theorem arr_23 : arrT Tryz.prog 23 = some (16, 5) := by kernel_rfl
instance : ART Tryz.prog 23 16 5 := ⟨arr_23⟩
theorem sl_24 : sliceT Tryz.prog 24 = some 140 := by kernel_rfl
instance : SLT Tryz.prog 24 140 := ⟨sl_24⟩
theorem sl_27 : sliceT Tryz.prog 27 = some 86 := by kernel_rfl
instance : SLT Tryz.prog 27 86 := ⟨sl_27⟩
theorem sl_28 : sliceT Tryz.prog 28 = some 159 := by kernel_rfl
instance : SLT Tryz.prog 28 159 := ⟨sl_28⟩
theorem sl_46 : sliceT Tryz.prog 46 = some 151 := by kernel_rfl
instance : SLT Tryz.prog 46 151 := ⟨sl_46⟩
theorem sl_47 : sliceT Tryz.prog 47 = some 26 := by kernel_rfl
instance : SLT Tryz.prog 47 26 := ⟨sl_47⟩
theorem sl_52 : sliceT Tryz.prog 52 = some 23 := by kernel_rfl
instance : SLT Tryz.prog 52 23 := ⟨sl_52⟩
theorem sl_55 : sliceT Tryz.prog 55 = some 4 := by kernel_rfl
instance : SLT Tryz.prog 55 4 := ⟨sl_55⟩
theorem sl_56 : sliceT Tryz.prog 56 = some 3 := by kernel_rfl
instance : SLT Tryz.prog 56 3 := ⟨sl_56⟩
theorem sl_60 : sliceT Tryz.prog 60 = some 30 := by kernel_rfl
instance : SLT Tryz.prog 60 30 := ⟨sl_60⟩
theorem sl_76 : sliceT Tryz.prog 76 = some 83 := by kernel_rfl
instance : SLT Tryz.prog 76 83 := ⟨sl_76⟩
theorem sl_86 : sliceT Tryz.prog 86 = some 5 := by kernel_rfl
instance : SLT Tryz.prog 86 5 := ⟨sl_86⟩
theorem sl_102 : sliceT Tryz.prog 102 = some 90 := by kernel_rfl
instance : SLT Tryz.prog 102 90 := ⟨sl_102⟩
theorem arr_103 : arrT Tryz.prog 103 = some (2, 3) := by kernel_rfl
instance : ART Tryz.prog 103 2 3 := ⟨arr_103⟩
theorem sl_104 : sliceT Tryz.prog 104 = some 108 := by kernel_rfl
instance : SLT Tryz.prog 104 108 := ⟨sl_104⟩
theorem arr_108 : arrT Tryz.prog 108 = some (64, 5) := by kernel_rfl
instance : ART Tryz.prog 108 64 5 := ⟨arr_108⟩
theorem sl_112 : sliceT Tryz.prog 112 = some 97 := by kernel_rfl
instance : SLT Tryz.prog 112 97 := ⟨sl_112⟩
theorem sl_153 : sliceT Tryz.prog 153 = some 38 := by kernel_rfl
instance : SLT Tryz.prog 153 38 := ⟨sl_153⟩
theorem sl_177 : sliceT Tryz.prog 177 = some 181 := by kernel_rfl
instance : SLT Tryz.prog 177 181 := ⟨sl_177⟩
theorem sl_215 : sliceT Tryz.prog 215 = some 9 := by kernel_rfl
instance : SLT Tryz.prog 215 9 := ⟨sl_215⟩
theorem arr_216 : arrT Tryz.prog 216 = some (32, 5) := by kernel_rfl
instance : ART Tryz.prog 216 32 5 := ⟨arr_216⟩
theorem arr_260 : arrT Tryz.prog 260 = some (64, 259) := by kernel_rfl
instance : ART Tryz.prog 260 64 259 := ⟨arr_260⟩
theorem arr_261 : arrT Tryz.prog 261 = some (8, 259) := by kernel_rfl
instance : ART Tryz.prog 261 8 259 := ⟨arr_261⟩
theorem arr_278 : arrT Tryz.prog 278 = some (8, 259) := by kernel_rfl
instance : ART Tryz.prog 278 8 259 := ⟨arr_278⟩
theorem el_24 : ElemT Tryz.prog 24 140 4 64 := elemT_of (by kernel_rfl)
instance : ELT Tryz.prog 24 140 4 64 := ⟨el_24⟩
theorem el_27 : ElemT Tryz.prog 27 86 1 24 := elemT_of (by kernel_rfl)
instance : ELT Tryz.prog 27 86 1 24 := ⟨el_27⟩
theorem el_28 : ElemT Tryz.prog 28 159 17 24 := elemT_of (by kernel_rfl)
instance : ELT Tryz.prog 28 159 17 24 := ⟨el_28⟩
theorem el_46 : ElemT Tryz.prog 46 151 55 152 := elemT_of (by kernel_rfl)
instance : ELT Tryz.prog 46 151 55 152 := ⟨el_46⟩
theorem el_47 : ElemT Tryz.prog 47 26 19 56 := elemT_of (by kernel_rfl)
instance : ELT Tryz.prog 47 26 19 56 := ⟨el_47⟩
theorem el_52 : ElemT Tryz.prog 52 23 16 16 := elemT_of (by kernel_rfl)
instance : ELT Tryz.prog 52 23 16 16 := ⟨el_52⟩
theorem el_55 : ElemT Tryz.prog 55 4 1 1 := elemT_of (by kernel_rfl)
instance : ELT Tryz.prog 55 4 1 1 := ⟨el_55⟩
theorem el_56 : ElemT Tryz.prog 56 3 1 8 := elemT_of (by kernel_rfl)
instance : ELT Tryz.prog 56 3 1 8 := ⟨el_56⟩
theorem el_60 : ElemT Tryz.prog 60 30 39 136 := elemT_of (by kernel_rfl)
instance : ELT Tryz.prog 60 30 39 136 := ⟨el_60⟩
theorem el_76 : ElemT Tryz.prog 76 83 2 16 := elemT_of (by kernel_rfl)
instance : ELT Tryz.prog 76 83 2 16 := ⟨el_76⟩
theorem el_86 : ElemT Tryz.prog 86 5 1 1 := elemT_of (by kernel_rfl)
instance : ELT Tryz.prog 86 5 1 1 := ⟨el_86⟩
theorem el_102 : ElemT Tryz.prog 102 90 6 64 := elemT_of (by kernel_rfl)
instance : ELT Tryz.prog 102 90 6 64 := ⟨el_102⟩
theorem el_104 : ElemT Tryz.prog 104 108 64 64 := elemT_of (by kernel_rfl)
instance : ELT Tryz.prog 104 108 64 64 := ⟨el_104⟩
theorem el_112 : ElemT Tryz.prog 112 97 58 192 := elemT_of (by kernel_rfl)
instance : ELT Tryz.prog 112 97 58 192 := ⟨el_112⟩
theorem el_153 : ElemT Tryz.prog 153 38 1 16 := elemT_of (by kernel_rfl)
instance : ELT Tryz.prog 153 38 1 16 := ⟨el_153⟩
theorem el_177 : ElemT Tryz.prog 177 181 18 64 := elemT_of (by kernel_rfl)
instance : ELT Tryz.prog 177 181 18 64 := ⟨el_177⟩
theorem el_215 : ElemT Tryz.prog 215 9 1 16 := elemT_of (by kernel_rfl)
instance : ELT Tryz.prog 215 9 1 16 := ⟨el_215⟩
theorem un_3 : Tryz.prog.underlying 3 = some (.int .i64) := by kernel_rfl
instance : UNT Tryz.prog 3 (.int .i64) := ⟨un_3⟩
theorem un_4 : Tryz.prog.underlying 4 = some (.bool) := by kernel_rfl
instance : UNT Tryz.prog 4 (.bool) := ⟨un_4⟩
theorem un_5 : Tryz.prog.underlying 5 = some (.int .u8) := by kernel_rfl
instance : UNT Tryz.prog 5 (.int .u8) := ⟨un_5⟩
theorem un_9 : Tryz.prog.underlying 9 = some (.string) := by kernel_rfl
instance : UNT Tryz.prog 9 (.string) := ⟨un_9⟩
theorem un_23 : Tryz.prog.underlying 23 = some (.array 16 5) := by kernel_rfl
instance : UNT Tryz.prog 23 (.array 16 5) := ⟨un_23⟩
theorem pl_26 : placesT Tryz.prog 26 = some [(0, 1), (1, 1), (2, 16), (18, 1)] := by kernel_rfl
instance : PLT Tryz.prog 26 [(0, 1), (1, 1), (2, 16), (18, 1)] := ⟨pl_26⟩
theorem un_28 : Tryz.prog.underlying 28 = some (.slice 159) := by kernel_rfl
instance : UNT Tryz.prog 28 (.slice 159) := ⟨un_28⟩
theorem pl_30 : placesT Tryz.prog 30 = some [(0, 1), (1, 1), (2, 16), (18, 19), (37, 1), (38, 1)] := by kernel_rfl
instance : PLT Tryz.prog 30 [(0, 1), (1, 1), (2, 16), (18, 19), (37, 1), (38, 1)] := ⟨pl_30⟩
theorem un_36 : Tryz.prog.underlying 36 = some (.pointer 149) := by kernel_rfl
instance : UNT Tryz.prog 36 (.pointer 149) := ⟨un_36⟩
theorem ifc_38 : ifcT Tryz.prog 38 = true := by kernel_rfl
instance : IFT Tryz.prog 38 := ⟨ifc_38⟩
theorem un_41 : Tryz.prog.underlying 41 = some (.pointer 49) := by kernel_rfl
instance : UNT Tryz.prog 41 (.pointer 49) := ⟨un_41⟩
theorem pl_49 : placesT Tryz.prog 49 = some [(0, 16), (16, 1), (17, 1)] := by kernel_rfl
instance : PLT Tryz.prog 49 [(0, 16), (16, 1), (17, 1)] := ⟨pl_49⟩
theorem un_52 : Tryz.prog.underlying 52 = some (.slice 23) := by kernel_rfl
instance : UNT Tryz.prog 52 (.slice 23) := ⟨un_52⟩
theorem pl_58 : placesT Tryz.prog 58 = some [(0, 1), (1, 1), (2, 1)] := by kernel_rfl
instance : PLT Tryz.prog 58 [(0, 1), (1, 1), (2, 1)] := ⟨pl_58⟩
theorem un_59 : Tryz.prog.underlying 59 = some (.pointer 179) := by kernel_rfl
instance : UNT Tryz.prog 59 (.pointer 179) := ⟨un_59⟩
theorem pl_62 : placesT Tryz.prog 62 = some [(0, 1), (1, 1), (2, 1), (3, 1), (4, 1), (5, 16)] := by kernel_rfl
instance : PLT Tryz.prog 62 [(0, 1), (1, 1), (2, 1), (3, 1), (4, 1), (5, 16)] := ⟨pl_62⟩
theorem un_71 : Tryz.prog.underlying 71 = some (.int .u64) := by kernel_rfl
instance : UNT Tryz.prog 71 (.int .u64) := ⟨un_71⟩
theorem pl_81 : placesT Tryz.prog 81 = some [(0, 1), (1, 1)] := by kernel_rfl
instance : PLT Tryz.prog 81 [(0, 1), (1, 1)] := ⟨pl_81⟩
theorem un_86 : Tryz.prog.underlying 86 = some (.slice 5) := by kernel_rfl
instance : UNT Tryz.prog 86 (.slice 5) := ⟨un_86⟩
theorem un_87 : Tryz.prog.underlying 87 = some (.map 5 4) := by kernel_rfl
instance : UNT Tryz.prog 87 (.map 5 4) := ⟨un_87⟩
theorem un_91 : Tryz.prog.underlying 91 = some (.pointer 175) := by kernel_rfl
instance : UNT Tryz.prog 91 (.pointer 175) := ⟨un_91⟩
theorem pl_97 : placesT Tryz.prog 97 = some [(0, 39), (39, 19)] := by kernel_rfl
instance : PLT Tryz.prog 97 [(0, 39), (39, 19)] := ⟨pl_97⟩
theorem un_108 : Tryz.prog.underlying 108 = some (.array 64 5) := by kernel_rfl
instance : UNT Tryz.prog 108 (.array 64 5) := ⟨un_108⟩
theorem pl_127 : placesT Tryz.prog 127 = some [(0, 1), (1, 1), (2, 1), (3, 1), (4, 1), (5, 1)] := by kernel_rfl
instance : PLT Tryz.prog 127 [(0, 1), (1, 1), (2, 1), (3, 1), (4, 1), (5, 1)] := ⟨pl_127⟩
theorem pl_138 : placesT Tryz.prog 138 = some [(0, 1), (1, 1), (2, 1)] := by kernel_rfl
instance : PLT Tryz.prog 138 [(0, 1), (1, 1), (2, 1)] := ⟨pl_138⟩
theorem pl_140 : placesT Tryz.prog 140 = some [(0, 1), (1, 3)] := by kernel_rfl
instance : PLT Tryz.prog 140 [(0, 1), (1, 3)] := ⟨pl_140⟩
theorem un_146 : Tryz.prog.underlying 146 = some (.map 23 30) := by kernel_rfl
instance : UNT Tryz.prog 146 (.map 23 30) := ⟨un_146⟩
theorem pl_149 : placesT Tryz.prog 149 = some [(0, 16), (16, 1), (17, 1), (18, 1)] := by kernel_rfl
instance : PLT Tryz.prog 149 [(0, 16), (16, 1), (17, 1), (18, 1)] := ⟨pl_149⟩
theorem pl_151 : placesT Tryz.prog 151 = some [(0, 16), (16, 39)] := by kernel_rfl
instance : PLT Tryz.prog 151 [(0, 16), (16, 39)] := ⟨pl_151⟩
theorem pl_159 : placesT Tryz.prog 159 = some [(0, 16), (16, 1)] := by kernel_rfl
instance : PLT Tryz.prog 159 [(0, 16), (16, 1)] := ⟨pl_159⟩
theorem un_169 : Tryz.prog.underlying 169 = some (.map 23 4) := by kernel_rfl
instance : UNT Tryz.prog 169 (.map 23 4) := ⟨un_169⟩
theorem pl_171 : placesT Tryz.prog 171 = some [(0, 1), (1, 1)] := by kernel_rfl
instance : PLT Tryz.prog 171 [(0, 1), (1, 1)] := ⟨pl_171⟩
theorem un_173 : Tryz.prog.underlying 173 = some (.map 3 108) := by kernel_rfl
instance : UNT Tryz.prog 173 (.map 3 108) := ⟨un_173⟩
theorem pl_175 : placesT Tryz.prog 175 = some [(0, 1), (1, 1), (2, 1), (3, 1), (4, 1)] := by kernel_rfl
instance : PLT Tryz.prog 175 [(0, 1), (1, 1), (2, 1), (3, 1), (4, 1)] := ⟨pl_175⟩
theorem pl_179 : placesT Tryz.prog 179 = some [(0, 1), (1, 1), (2, 1), (3, 1)] := by kernel_rfl
instance : PLT Tryz.prog 179 [(0, 1), (1, 1), (2, 1), (3, 1)] := ⟨pl_179⟩
theorem pl_181 : placesT Tryz.prog 181 = some [(0, 16), (16, 1), (17, 1)] := by kernel_rfl
instance : PLT Tryz.prog 181 [(0, 16), (16, 1), (17, 1)] := ⟨pl_181⟩
theorem pl_196 : placesT Tryz.prog 196 = some [(0, 1), (1, 1), (2, 1)] := by kernel_rfl
instance : PLT Tryz.prog 196 [(0, 1), (1, 1), (2, 1)] := ⟨pl_196⟩
theorem pl_199 : placesT Tryz.prog 199 = some [(0, 1)] := by kernel_rfl
instance : PLT Tryz.prog 199 [(0, 1)] := ⟨pl_199⟩
theorem pl_212 : placesT Tryz.prog 212 = some [(0, 1), (1, 1)] := by kernel_rfl
instance : PLT Tryz.prog 212 [(0, 1), (1, 1)] := ⟨pl_212⟩
theorem un_216 : Tryz.prog.underlying 216 = some (.array 32 5) := by kernel_rfl
instance : UNT Tryz.prog 216 (.array 32 5) := ⟨un_216⟩
theorem pl_233 : placesT Tryz.prog 233 = some [(0, 1)] := by kernel_rfl
instance : PLT Tryz.prog 233 [(0, 1)] := ⟨pl_233⟩
theorem pl_252 : placesT Tryz.prog 252 = some [(0, 1)] := by kernel_rfl
instance : PLT Tryz.prog 252 [(0, 1)] := ⟨pl_252⟩
theorem un_258 : Tryz.prog.underlying 258 = some (.int .u64) := by kernel_rfl
instance : UNT Tryz.prog 258 (.int .u64) := ⟨un_258⟩
theorem un_259 : Tryz.prog.underlying 259 = some (.int .u32) := by kernel_rfl
instance : UNT Tryz.prog 259 (.int .u32) := ⟨un_259⟩
theorem un_260 : Tryz.prog.underlying 260 = some (.array 64 259) := by kernel_rfl
instance : UNT Tryz.prog 260 (.array 64 259) := ⟨un_260⟩
theorem un_261 : Tryz.prog.underlying 261 = some (.array 8 259) := by kernel_rfl
instance : UNT Tryz.prog 261 (.array 8 259) := ⟨un_261⟩
theorem un_278 : Tryz.prog.underlying 278 = some (.array 8 259) := by kernel_rfl
instance : UNT Tryz.prog 278 (.array 8 259) := ⟨un_278⟩
theorem pl_281 : placesT Tryz.prog 281 = some [(0, 8), (8, 1), (9, 1)] := by kernel_rfl
instance : PLT Tryz.prog 281 [(0, 8), (8, 1), (9, 1)] := ⟨pl_281⟩
theorem pl_289 : placesT Tryz.prog 289 = some [(0, 1), (1, 1)] := by kernel_rfl
instance : PLT Tryz.prog 289 [(0, 1), (1, 1)] := ⟨pl_289⟩
theorem pl_291 : placesT Tryz.prog 291 = some [(0, 1), (1, 1)] := by kernel_rfl
instance : PLT Tryz.prog 291 [(0, 1), (1, 1)] := ⟨pl_291⟩
theorem un_322 : Tryz.prog.underlying 322 = some (.int .i64) := by kernel_rfl
instance : UNT Tryz.prog 322 (.int .i64) := ⟨un_322⟩
theorem un_332 : Tryz.prog.underlying 332 = some (.int .u64) := by kernel_rfl
instance : UNT Tryz.prog 332 (.int .u64) := ⟨un_332⟩
theorem un_340 : Tryz.prog.underlying 340 = some (.pointer 365) := by kernel_rfl
instance : UNT Tryz.prog 340 (.pointer 365) := ⟨un_340⟩
theorem pl_365 : placesT Tryz.prog 365 = some [(0, 1)] := by kernel_rfl
instance : PLT Tryz.prog 365 [(0, 1)] := ⟨pl_365⟩
theorem fo_26_0 : foff Tryz.prog 26 0 = some 0 := by kernel_rfl
instance : FO Tryz.prog 26 0 0 := ⟨fo_26_0⟩
theorem fo_26_1 : foff Tryz.prog 26 1 = some 1 := by kernel_rfl
instance : FO Tryz.prog 26 1 1 := ⟨fo_26_1⟩
theorem fo_26_2 : foff Tryz.prog 26 2 = some 2 := by kernel_rfl
instance : FO Tryz.prog 26 2 2 := ⟨fo_26_2⟩
theorem fo_26_3 : foff Tryz.prog 26 3 = some 18 := by kernel_rfl
instance : FO Tryz.prog 26 3 18 := ⟨fo_26_3⟩
theorem fo_30_0 : foff Tryz.prog 30 0 = some 0 := by kernel_rfl
instance : FO Tryz.prog 30 0 0 := ⟨fo_30_0⟩
theorem fo_30_1 : foff Tryz.prog 30 1 = some 1 := by kernel_rfl
instance : FO Tryz.prog 30 1 1 := ⟨fo_30_1⟩
theorem fo_30_2 : foff Tryz.prog 30 2 = some 2 := by kernel_rfl
instance : FO Tryz.prog 30 2 2 := ⟨fo_30_2⟩
theorem fo_30_3 : foff Tryz.prog 30 3 = some 18 := by kernel_rfl
instance : FO Tryz.prog 30 3 18 := ⟨fo_30_3⟩
theorem fo_30_4 : foff Tryz.prog 30 4 = some 37 := by kernel_rfl
instance : FO Tryz.prog 30 4 37 := ⟨fo_30_4⟩
theorem fo_30_5 : foff Tryz.prog 30 5 = some 38 := by kernel_rfl
instance : FO Tryz.prog 30 5 38 := ⟨fo_30_5⟩
theorem fo_49_0 : foff Tryz.prog 49 0 = some 0 := by kernel_rfl
instance : FO Tryz.prog 49 0 0 := ⟨fo_49_0⟩
theorem fo_49_1 : foff Tryz.prog 49 1 = some 16 := by kernel_rfl
instance : FO Tryz.prog 49 1 16 := ⟨fo_49_1⟩
theorem fo_49_2 : foff Tryz.prog 49 2 = some 17 := by kernel_rfl
instance : FO Tryz.prog 49 2 17 := ⟨fo_49_2⟩
theorem fo_58_0 : foff Tryz.prog 58 0 = some 0 := by kernel_rfl
instance : FO Tryz.prog 58 0 0 := ⟨fo_58_0⟩
theorem fo_58_1 : foff Tryz.prog 58 1 = some 1 := by kernel_rfl
instance : FO Tryz.prog 58 1 1 := ⟨fo_58_1⟩
theorem fo_58_2 : foff Tryz.prog 58 2 = some 2 := by kernel_rfl
instance : FO Tryz.prog 58 2 2 := ⟨fo_58_2⟩
theorem fo_62_0 : foff Tryz.prog 62 0 = some 0 := by kernel_rfl
instance : FO Tryz.prog 62 0 0 := ⟨fo_62_0⟩
theorem fo_62_1 : foff Tryz.prog 62 1 = some 1 := by kernel_rfl
instance : FO Tryz.prog 62 1 1 := ⟨fo_62_1⟩
theorem fo_62_2 : foff Tryz.prog 62 2 = some 2 := by kernel_rfl
instance : FO Tryz.prog 62 2 2 := ⟨fo_62_2⟩
theorem fo_62_3 : foff Tryz.prog 62 3 = some 3 := by kernel_rfl
instance : FO Tryz.prog 62 3 3 := ⟨fo_62_3⟩
theorem fo_62_4 : foff Tryz.prog 62 4 = some 4 := by kernel_rfl
instance : FO Tryz.prog 62 4 4 := ⟨fo_62_4⟩
theorem fo_62_5 : foff Tryz.prog 62 5 = some 5 := by kernel_rfl
instance : FO Tryz.prog 62 5 5 := ⟨fo_62_5⟩
theorem fo_81_0 : foff Tryz.prog 81 0 = some 0 := by kernel_rfl
instance : FO Tryz.prog 81 0 0 := ⟨fo_81_0⟩
theorem fo_81_1 : foff Tryz.prog 81 1 = some 1 := by kernel_rfl
instance : FO Tryz.prog 81 1 1 := ⟨fo_81_1⟩
theorem fo_83_0 : foff Tryz.prog 83 0 = some 0 := by kernel_rfl
instance : FO Tryz.prog 83 0 0 := ⟨fo_83_0⟩
theorem fo_83_1 : foff Tryz.prog 83 1 = some 1 := by kernel_rfl
instance : FO Tryz.prog 83 1 1 := ⟨fo_83_1⟩
theorem fo_90_0 : foff Tryz.prog 90 0 = some 0 := by kernel_rfl
instance : FO Tryz.prog 90 0 0 := ⟨fo_90_0⟩
theorem fo_90_1 : foff Tryz.prog 90 1 = some 1 := by kernel_rfl
instance : FO Tryz.prog 90 1 1 := ⟨fo_90_1⟩
theorem fo_90_2 : foff Tryz.prog 90 2 = some 2 := by kernel_rfl
instance : FO Tryz.prog 90 2 2 := ⟨fo_90_2⟩
theorem fo_90_3 : foff Tryz.prog 90 3 = some 3 := by kernel_rfl
instance : FO Tryz.prog 90 3 3 := ⟨fo_90_3⟩
theorem fo_90_4 : foff Tryz.prog 90 4 = some 4 := by kernel_rfl
instance : FO Tryz.prog 90 4 4 := ⟨fo_90_4⟩
theorem fo_90_5 : foff Tryz.prog 90 5 = some 5 := by kernel_rfl
instance : FO Tryz.prog 90 5 5 := ⟨fo_90_5⟩
theorem fo_97_0 : foff Tryz.prog 97 0 = some 0 := by kernel_rfl
instance : FO Tryz.prog 97 0 0 := ⟨fo_97_0⟩
theorem fo_97_1 : foff Tryz.prog 97 1 = some 39 := by kernel_rfl
instance : FO Tryz.prog 97 1 39 := ⟨fo_97_1⟩
theorem fo_127_0 : foff Tryz.prog 127 0 = some 0 := by kernel_rfl
instance : FO Tryz.prog 127 0 0 := ⟨fo_127_0⟩
theorem fo_127_1 : foff Tryz.prog 127 1 = some 1 := by kernel_rfl
instance : FO Tryz.prog 127 1 1 := ⟨fo_127_1⟩
theorem fo_127_2 : foff Tryz.prog 127 2 = some 2 := by kernel_rfl
instance : FO Tryz.prog 127 2 2 := ⟨fo_127_2⟩
theorem fo_127_3 : foff Tryz.prog 127 3 = some 3 := by kernel_rfl
instance : FO Tryz.prog 127 3 3 := ⟨fo_127_3⟩
theorem fo_127_4 : foff Tryz.prog 127 4 = some 4 := by kernel_rfl
instance : FO Tryz.prog 127 4 4 := ⟨fo_127_4⟩
theorem fo_127_5 : foff Tryz.prog 127 5 = some 5 := by kernel_rfl
instance : FO Tryz.prog 127 5 5 := ⟨fo_127_5⟩
theorem fo_138_0 : foff Tryz.prog 138 0 = some 0 := by kernel_rfl
instance : FO Tryz.prog 138 0 0 := ⟨fo_138_0⟩
theorem fo_138_1 : foff Tryz.prog 138 1 = some 1 := by kernel_rfl
instance : FO Tryz.prog 138 1 1 := ⟨fo_138_1⟩
theorem fo_138_2 : foff Tryz.prog 138 2 = some 2 := by kernel_rfl
instance : FO Tryz.prog 138 2 2 := ⟨fo_138_2⟩
theorem fo_140_0 : foff Tryz.prog 140 0 = some 0 := by kernel_rfl
instance : FO Tryz.prog 140 0 0 := ⟨fo_140_0⟩
theorem fo_140_1 : foff Tryz.prog 140 1 = some 1 := by kernel_rfl
instance : FO Tryz.prog 140 1 1 := ⟨fo_140_1⟩
theorem fo_149_0 : foff Tryz.prog 149 0 = some 0 := by kernel_rfl
instance : FO Tryz.prog 149 0 0 := ⟨fo_149_0⟩
theorem fo_149_1 : foff Tryz.prog 149 1 = some 16 := by kernel_rfl
instance : FO Tryz.prog 149 1 16 := ⟨fo_149_1⟩
theorem fo_149_2 : foff Tryz.prog 149 2 = some 17 := by kernel_rfl
instance : FO Tryz.prog 149 2 17 := ⟨fo_149_2⟩
theorem fo_149_3 : foff Tryz.prog 149 3 = some 18 := by kernel_rfl
instance : FO Tryz.prog 149 3 18 := ⟨fo_149_3⟩
theorem fo_151_0 : foff Tryz.prog 151 0 = some 0 := by kernel_rfl
instance : FO Tryz.prog 151 0 0 := ⟨fo_151_0⟩
theorem fo_151_1 : foff Tryz.prog 151 1 = some 16 := by kernel_rfl
instance : FO Tryz.prog 151 1 16 := ⟨fo_151_1⟩
theorem fo_159_0 : foff Tryz.prog 159 0 = some 0 := by kernel_rfl
instance : FO Tryz.prog 159 0 0 := ⟨fo_159_0⟩
theorem fo_159_1 : foff Tryz.prog 159 1 = some 16 := by kernel_rfl
instance : FO Tryz.prog 159 1 16 := ⟨fo_159_1⟩
theorem fo_171_0 : foff Tryz.prog 171 0 = some 0 := by kernel_rfl
instance : FO Tryz.prog 171 0 0 := ⟨fo_171_0⟩
theorem fo_171_1 : foff Tryz.prog 171 1 = some 1 := by kernel_rfl
instance : FO Tryz.prog 171 1 1 := ⟨fo_171_1⟩
theorem fo_175_0 : foff Tryz.prog 175 0 = some 0 := by kernel_rfl
instance : FO Tryz.prog 175 0 0 := ⟨fo_175_0⟩
theorem fo_175_1 : foff Tryz.prog 175 1 = some 1 := by kernel_rfl
instance : FO Tryz.prog 175 1 1 := ⟨fo_175_1⟩
theorem fo_175_2 : foff Tryz.prog 175 2 = some 2 := by kernel_rfl
instance : FO Tryz.prog 175 2 2 := ⟨fo_175_2⟩
theorem fo_175_3 : foff Tryz.prog 175 3 = some 3 := by kernel_rfl
instance : FO Tryz.prog 175 3 3 := ⟨fo_175_3⟩
theorem fo_175_4 : foff Tryz.prog 175 4 = some 4 := by kernel_rfl
instance : FO Tryz.prog 175 4 4 := ⟨fo_175_4⟩
theorem fo_179_0 : foff Tryz.prog 179 0 = some 0 := by kernel_rfl
instance : FO Tryz.prog 179 0 0 := ⟨fo_179_0⟩
theorem fo_179_2 : foff Tryz.prog 179 2 = some 2 := by kernel_rfl
instance : FO Tryz.prog 179 2 2 := ⟨fo_179_2⟩
theorem fo_179_3 : foff Tryz.prog 179 3 = some 3 := by kernel_rfl
instance : FO Tryz.prog 179 3 3 := ⟨fo_179_3⟩
theorem fo_181_0 : foff Tryz.prog 181 0 = some 0 := by kernel_rfl
instance : FO Tryz.prog 181 0 0 := ⟨fo_181_0⟩
theorem fo_181_1 : foff Tryz.prog 181 1 = some 16 := by kernel_rfl
instance : FO Tryz.prog 181 1 16 := ⟨fo_181_1⟩
theorem fo_181_2 : foff Tryz.prog 181 2 = some 17 := by kernel_rfl
instance : FO Tryz.prog 181 2 17 := ⟨fo_181_2⟩
theorem fo_196_0 : foff Tryz.prog 196 0 = some 0 := by kernel_rfl
instance : FO Tryz.prog 196 0 0 := ⟨fo_196_0⟩
theorem fo_196_1 : foff Tryz.prog 196 1 = some 1 := by kernel_rfl
instance : FO Tryz.prog 196 1 1 := ⟨fo_196_1⟩
theorem fo_196_2 : foff Tryz.prog 196 2 = some 2 := by kernel_rfl
instance : FO Tryz.prog 196 2 2 := ⟨fo_196_2⟩
theorem fo_199_0 : foff Tryz.prog 199 0 = some 0 := by kernel_rfl
instance : FO Tryz.prog 199 0 0 := ⟨fo_199_0⟩
theorem fo_212_0 : foff Tryz.prog 212 0 = some 0 := by kernel_rfl
instance : FO Tryz.prog 212 0 0 := ⟨fo_212_0⟩
theorem fo_212_1 : foff Tryz.prog 212 1 = some 1 := by kernel_rfl
instance : FO Tryz.prog 212 1 1 := ⟨fo_212_1⟩
theorem fo_233_0 : foff Tryz.prog 233 0 = some 0 := by kernel_rfl
instance : FO Tryz.prog 233 0 0 := ⟨fo_233_0⟩
theorem fo_252_0 : foff Tryz.prog 252 0 = some 0 := by kernel_rfl
instance : FO Tryz.prog 252 0 0 := ⟨fo_252_0⟩
theorem fo_281_0 : foff Tryz.prog 281 0 = some 0 := by kernel_rfl
instance : FO Tryz.prog 281 0 0 := ⟨fo_281_0⟩
theorem fo_281_1 : foff Tryz.prog 281 1 = some 8 := by kernel_rfl
instance : FO Tryz.prog 281 1 8 := ⟨fo_281_1⟩
theorem fo_281_2 : foff Tryz.prog 281 2 = some 9 := by kernel_rfl
instance : FO Tryz.prog 281 2 9 := ⟨fo_281_2⟩
theorem fo_287_0 : foff Tryz.prog 287 0 = some 0 := by kernel_rfl
instance : FO Tryz.prog 287 0 0 := ⟨fo_287_0⟩
theorem fo_289_0 : foff Tryz.prog 289 0 = some 0 := by kernel_rfl
instance : FO Tryz.prog 289 0 0 := ⟨fo_289_0⟩
theorem fo_289_1 : foff Tryz.prog 289 1 = some 1 := by kernel_rfl
instance : FO Tryz.prog 289 1 1 := ⟨fo_289_1⟩
theorem fo_291_0 : foff Tryz.prog 291 0 = some 0 := by kernel_rfl
instance : FO Tryz.prog 291 0 0 := ⟨fo_291_0⟩
theorem fo_291_1 : foff Tryz.prog 291 1 = some 1 := by kernel_rfl
instance : FO Tryz.prog 291 1 1 := ⟨fo_291_1⟩
theorem call_3 : okCall Tryz.prog 3 = true := by kernel_rfl
instance : CLT Tryz.prog 3 := ⟨call_3⟩
theorem call_4 : okCall Tryz.prog 4 = true := by kernel_rfl
instance : CLT Tryz.prog 4 := ⟨call_4⟩
theorem call_5 : okCall Tryz.prog 5 = true := by kernel_rfl
instance : CLT Tryz.prog 5 := ⟨call_5⟩
theorem call_6 : okCall Tryz.prog 6 = true := by kernel_rfl
instance : CLT Tryz.prog 6 := ⟨call_6⟩
theorem call_7 : okCall Tryz.prog 7 = true := by kernel_rfl
instance : CLT Tryz.prog 7 := ⟨call_7⟩
theorem call_8 : okCall Tryz.prog 8 = true := by kernel_rfl
instance : CLT Tryz.prog 8 := ⟨call_8⟩
theorem call_9 : okCall Tryz.prog 9 = true := by kernel_rfl
instance : CLT Tryz.prog 9 := ⟨call_9⟩
theorem call_10 : okCall Tryz.prog 10 = true := by kernel_rfl
instance : CLT Tryz.prog 10 := ⟨call_10⟩
theorem call_11 : okCall Tryz.prog 11 = true := by kernel_rfl
instance : CLT Tryz.prog 11 := ⟨call_11⟩
theorem call_12 : okCall Tryz.prog 12 = true := by kernel_rfl
instance : CLT Tryz.prog 12 := ⟨call_12⟩
theorem call_13 : okCall Tryz.prog 13 = true := by kernel_rfl
instance : CLT Tryz.prog 13 := ⟨call_13⟩
theorem call_14 : okCall Tryz.prog 14 = true := by kernel_rfl
instance : CLT Tryz.prog 14 := ⟨call_14⟩
theorem call_15 : okCall Tryz.prog 15 = true := by kernel_rfl
instance : CLT Tryz.prog 15 := ⟨call_15⟩
theorem call_16 : okCall Tryz.prog 16 = true := by kernel_rfl
instance : CLT Tryz.prog 16 := ⟨call_16⟩
theorem call_17 : okCall Tryz.prog 17 = true := by kernel_rfl
instance : CLT Tryz.prog 17 := ⟨call_17⟩
theorem call_18 : okCall Tryz.prog 18 = true := by kernel_rfl
instance : CLT Tryz.prog 18 := ⟨call_18⟩
theorem call_19 : okCall Tryz.prog 19 = true := by kernel_rfl
instance : CLT Tryz.prog 19 := ⟨call_19⟩
theorem call_20 : okCall Tryz.prog 20 = true := by kernel_rfl
instance : CLT Tryz.prog 20 := ⟨call_20⟩
theorem call_21 : okCall Tryz.prog 21 = true := by kernel_rfl
instance : CLT Tryz.prog 21 := ⟨call_21⟩
theorem call_22 : okCall Tryz.prog 22 = true := by kernel_rfl
instance : CLT Tryz.prog 22 := ⟨call_22⟩
theorem call_23 : okCall Tryz.prog 23 = true := by kernel_rfl
instance : CLT Tryz.prog 23 := ⟨call_23⟩
theorem call_24 : okCall Tryz.prog 24 = true := by kernel_rfl
instance : CLT Tryz.prog 24 := ⟨call_24⟩
theorem call_25 : okCall Tryz.prog 25 = true := by kernel_rfl
instance : CLT Tryz.prog 25 := ⟨call_25⟩
theorem call_26 : okCall Tryz.prog 26 = true := by kernel_rfl
instance : CLT Tryz.prog 26 := ⟨call_26⟩
theorem call_27 : okCall Tryz.prog 27 = true := by kernel_rfl
instance : CLT Tryz.prog 27 := ⟨call_27⟩
theorem call_28 : okCall Tryz.prog 28 = true := by kernel_rfl
instance : CLT Tryz.prog 28 := ⟨call_28⟩
theorem call_29 : okCall Tryz.prog 29 = true := by kernel_rfl
instance : CLT Tryz.prog 29 := ⟨call_29⟩
theorem call_30 : okCall Tryz.prog 30 = true := by kernel_rfl
instance : CLT Tryz.prog 30 := ⟨call_30⟩
theorem call_31 : okCall Tryz.prog 31 = true := by kernel_rfl
instance : CLT Tryz.prog 31 := ⟨call_31⟩
theorem call_32 : okCall Tryz.prog 32 = true := by kernel_rfl
instance : CLT Tryz.prog 32 := ⟨call_32⟩
theorem call_33 : okCall Tryz.prog 33 = true := by kernel_rfl
instance : CLT Tryz.prog 33 := ⟨call_33⟩
theorem call_34 : okCall Tryz.prog 34 = true := by kernel_rfl
instance : CLT Tryz.prog 34 := ⟨call_34⟩
theorem call_35 : okCall Tryz.prog 35 = true := by kernel_rfl
instance : CLT Tryz.prog 35 := ⟨call_35⟩
theorem call_36 : okCall Tryz.prog 36 = true := by kernel_rfl
instance : CLT Tryz.prog 36 := ⟨call_36⟩
theorem call_37 : okCall Tryz.prog 37 = true := by kernel_rfl
instance : CLT Tryz.prog 37 := ⟨call_37⟩
theorem call_38 : okCall Tryz.prog 38 = true := by kernel_rfl
instance : CLT Tryz.prog 38 := ⟨call_38⟩
theorem call_39 : okCall Tryz.prog 39 = true := by kernel_rfl
instance : CLT Tryz.prog 39 := ⟨call_39⟩
theorem call_40 : okCall Tryz.prog 40 = true := by kernel_rfl
instance : CLT Tryz.prog 40 := ⟨call_40⟩
theorem call_41 : okCall Tryz.prog 41 = true := by kernel_rfl
instance : CLT Tryz.prog 41 := ⟨call_41⟩
theorem call_42 : okCall Tryz.prog 42 = true := by kernel_rfl
instance : CLT Tryz.prog 42 := ⟨call_42⟩
theorem call_43 : okCall Tryz.prog 43 = true := by kernel_rfl
instance : CLT Tryz.prog 43 := ⟨call_43⟩
theorem call_44 : okCall Tryz.prog 44 = true := by kernel_rfl
instance : CLT Tryz.prog 44 := ⟨call_44⟩
theorem call_45 : okCall Tryz.prog 45 = true := by kernel_rfl
instance : CLT Tryz.prog 45 := ⟨call_45⟩
theorem call_46 : okCall Tryz.prog 46 = true := by kernel_rfl
instance : CLT Tryz.prog 46 := ⟨call_46⟩
theorem call_47 : okCall Tryz.prog 47 = true := by kernel_rfl
instance : CLT Tryz.prog 47 := ⟨call_47⟩
theorem call_48 : okCall Tryz.prog 48 = true := by kernel_rfl
instance : CLT Tryz.prog 48 := ⟨call_48⟩
theorem call_49 : okCall Tryz.prog 49 = true := by kernel_rfl
instance : CLT Tryz.prog 49 := ⟨call_49⟩
theorem call_50 : okCall Tryz.prog 50 = true := by kernel_rfl
instance : CLT Tryz.prog 50 := ⟨call_50⟩
theorem call_51 : okCall Tryz.prog 51 = true := by kernel_rfl
instance : CLT Tryz.prog 51 := ⟨call_51⟩
theorem call_52 : okCall Tryz.prog 52 = true := by kernel_rfl
instance : CLT Tryz.prog 52 := ⟨call_52⟩
theorem call_53 : okCall Tryz.prog 53 = true := by kernel_rfl
instance : CLT Tryz.prog 53 := ⟨call_53⟩
theorem call_54 : okCall Tryz.prog 54 = true := by kernel_rfl
instance : CLT Tryz.prog 54 := ⟨call_54⟩
theorem call_55 : okCall Tryz.prog 55 = true := by kernel_rfl
instance : CLT Tryz.prog 55 := ⟨call_55⟩
theorem call_56 : okCall Tryz.prog 56 = true := by kernel_rfl
instance : CLT Tryz.prog 56 := ⟨call_56⟩
theorem call_57 : okCall Tryz.prog 57 = true := by kernel_rfl
instance : CLT Tryz.prog 57 := ⟨call_57⟩
theorem call_58 : okCall Tryz.prog 58 = true := by kernel_rfl
instance : CLT Tryz.prog 58 := ⟨call_58⟩
theorem call_59 : okCall Tryz.prog 59 = true := by kernel_rfl
instance : CLT Tryz.prog 59 := ⟨call_59⟩
theorem call_60 : okCall Tryz.prog 60 = true := by kernel_rfl
instance : CLT Tryz.prog 60 := ⟨call_60⟩
theorem call_61 : okCall Tryz.prog 61 = true := by kernel_rfl
instance : CLT Tryz.prog 61 := ⟨call_61⟩
theorem call_62 : okCall Tryz.prog 62 = true := by kernel_rfl
instance : CLT Tryz.prog 62 := ⟨call_62⟩
theorem call_63 : okCall Tryz.prog 63 = true := by kernel_rfl
instance : CLT Tryz.prog 63 := ⟨call_63⟩
theorem call_64 : okCall Tryz.prog 64 = true := by kernel_rfl
instance : CLT Tryz.prog 64 := ⟨call_64⟩
theorem call_65 : okCall Tryz.prog 65 = true := by kernel_rfl
instance : CLT Tryz.prog 65 := ⟨call_65⟩
theorem call_66 : okCall Tryz.prog 66 = true := by kernel_rfl
instance : CLT Tryz.prog 66 := ⟨call_66⟩
theorem call_67 : okCall Tryz.prog 67 = true := by kernel_rfl
instance : CLT Tryz.prog 67 := ⟨call_67⟩
theorem call_68 : okCall Tryz.prog 68 = true := by kernel_rfl
instance : CLT Tryz.prog 68 := ⟨call_68⟩
theorem call_69 : okCall Tryz.prog 69 = true := by kernel_rfl
instance : CLT Tryz.prog 69 := ⟨call_69⟩
theorem call_70 : okCall Tryz.prog 70 = true := by kernel_rfl
instance : CLT Tryz.prog 70 := ⟨call_70⟩
theorem call_71 : okCall Tryz.prog 71 = true := by kernel_rfl
instance : CLT Tryz.prog 71 := ⟨call_71⟩
theorem call_72 : okCall Tryz.prog 72 = true := by kernel_rfl
instance : CLT Tryz.prog 72 := ⟨call_72⟩
theorem call_73 : okCall Tryz.prog 73 = true := by kernel_rfl
instance : CLT Tryz.prog 73 := ⟨call_73⟩
theorem call_74 : okCall Tryz.prog 74 = true := by kernel_rfl
instance : CLT Tryz.prog 74 := ⟨call_74⟩
theorem call_75 : okCall Tryz.prog 75 = true := by kernel_rfl
instance : CLT Tryz.prog 75 := ⟨call_75⟩
theorem call_76 : okCall Tryz.prog 76 = true := by kernel_rfl
instance : CLT Tryz.prog 76 := ⟨call_76⟩
theorem call_77 : okCall Tryz.prog 77 = true := by kernel_rfl
instance : CLT Tryz.prog 77 := ⟨call_77⟩
theorem call_78 : okCall Tryz.prog 78 = true := by kernel_rfl
instance : CLT Tryz.prog 78 := ⟨call_78⟩
theorem call_79 : okCall Tryz.prog 79 = true := by kernel_rfl
instance : CLT Tryz.prog 79 := ⟨call_79⟩
theorem call_80 : okCall Tryz.prog 80 = true := by kernel_rfl
instance : CLT Tryz.prog 80 := ⟨call_80⟩
theorem call_81 : okCall Tryz.prog 81 = true := by kernel_rfl
instance : CLT Tryz.prog 81 := ⟨call_81⟩
theorem call_82 : okCall Tryz.prog 82 = true := by kernel_rfl
instance : CLT Tryz.prog 82 := ⟨call_82⟩
theorem call_83 : okCall Tryz.prog 83 = true := by kernel_rfl
instance : CLT Tryz.prog 83 := ⟨call_83⟩
theorem call_84 : okCall Tryz.prog 84 = true := by kernel_rfl
instance : CLT Tryz.prog 84 := ⟨call_84⟩
theorem call_85 : okCall Tryz.prog 85 = true := by kernel_rfl
instance : CLT Tryz.prog 85 := ⟨call_85⟩
theorem call_86 : okCall Tryz.prog 86 = true := by kernel_rfl
instance : CLT Tryz.prog 86 := ⟨call_86⟩
theorem call_87 : okCall Tryz.prog 87 = true := by kernel_rfl
instance : CLT Tryz.prog 87 := ⟨call_87⟩
theorem call_88 : okCall Tryz.prog 88 = true := by kernel_rfl
instance : CLT Tryz.prog 88 := ⟨call_88⟩
theorem call_89 : okCall Tryz.prog 89 = true := by kernel_rfl
instance : CLT Tryz.prog 89 := ⟨call_89⟩
theorem call_90 : okCall Tryz.prog 90 = true := by kernel_rfl
instance : CLT Tryz.prog 90 := ⟨call_90⟩
theorem call_91 : okCall Tryz.prog 91 = true := by kernel_rfl
instance : CLT Tryz.prog 91 := ⟨call_91⟩
theorem call_92 : okCall Tryz.prog 92 = true := by kernel_rfl
instance : CLT Tryz.prog 92 := ⟨call_92⟩
theorem call_93 : okCall Tryz.prog 93 = true := by kernel_rfl
instance : CLT Tryz.prog 93 := ⟨call_93⟩
theorem call_94 : okCall Tryz.prog 94 = true := by kernel_rfl
instance : CLT Tryz.prog 94 := ⟨call_94⟩
theorem call_95 : okCall Tryz.prog 95 = true := by kernel_rfl
instance : CLT Tryz.prog 95 := ⟨call_95⟩
theorem call_96 : okCall Tryz.prog 96 = true := by kernel_rfl
instance : CLT Tryz.prog 96 := ⟨call_96⟩
theorem call_97 : okCall Tryz.prog 97 = true := by kernel_rfl
instance : CLT Tryz.prog 97 := ⟨call_97⟩
theorem call_98 : okCall Tryz.prog 98 = true := by kernel_rfl
instance : CLT Tryz.prog 98 := ⟨call_98⟩
theorem call_99 : okCall Tryz.prog 99 = true := by kernel_rfl
instance : CLT Tryz.prog 99 := ⟨call_99⟩
theorem call_100 : okCall Tryz.prog 100 = true := by kernel_rfl
instance : CLT Tryz.prog 100 := ⟨call_100⟩
theorem call_101 : okCall Tryz.prog 101 = true := by kernel_rfl
instance : CLT Tryz.prog 101 := ⟨call_101⟩
theorem call_102 : okCall Tryz.prog 102 = true := by kernel_rfl
instance : CLT Tryz.prog 102 := ⟨call_102⟩
theorem call_103 : okCall Tryz.prog 103 = true := by kernel_rfl
instance : CLT Tryz.prog 103 := ⟨call_103⟩
theorem call_104 : okCall Tryz.prog 104 = true := by kernel_rfl
instance : CLT Tryz.prog 104 := ⟨call_104⟩
theorem call_105 : okCall Tryz.prog 105 = true := by kernel_rfl
instance : CLT Tryz.prog 105 := ⟨call_105⟩
theorem call_106 : okCall Tryz.prog 106 = true := by kernel_rfl
instance : CLT Tryz.prog 106 := ⟨call_106⟩
theorem call_107 : okCall Tryz.prog 107 = true := by kernel_rfl
instance : CLT Tryz.prog 107 := ⟨call_107⟩
theorem call_108 : okCall Tryz.prog 108 = true := by kernel_rfl
instance : CLT Tryz.prog 108 := ⟨call_108⟩
theorem call_109 : okCall Tryz.prog 109 = true := by kernel_rfl
instance : CLT Tryz.prog 109 := ⟨call_109⟩
theorem call_110 : okCall Tryz.prog 110 = true := by kernel_rfl
instance : CLT Tryz.prog 110 := ⟨call_110⟩
theorem call_111 : okCall Tryz.prog 111 = true := by kernel_rfl
instance : CLT Tryz.prog 111 := ⟨call_111⟩
theorem call_112 : okCall Tryz.prog 112 = true := by kernel_rfl
instance : CLT Tryz.prog 112 := ⟨call_112⟩
theorem call_113 : okCall Tryz.prog 113 = true := by kernel_rfl
instance : CLT Tryz.prog 113 := ⟨call_113⟩
theorem call_114 : okCall Tryz.prog 114 = true := by kernel_rfl
instance : CLT Tryz.prog 114 := ⟨call_114⟩
theorem call_115 : okCall Tryz.prog 115 = true := by kernel_rfl
instance : CLT Tryz.prog 115 := ⟨call_115⟩
theorem call_116 : okCall Tryz.prog 116 = true := by kernel_rfl
instance : CLT Tryz.prog 116 := ⟨call_116⟩
theorem call_118 : okCall Tryz.prog 118 = true := by kernel_rfl
instance : CLT Tryz.prog 118 := ⟨call_118⟩
theorem call_119 : okCall Tryz.prog 119 = true := by kernel_rfl
instance : CLT Tryz.prog 119 := ⟨call_119⟩
theorem call_120 : okCall Tryz.prog 120 = true := by kernel_rfl
instance : CLT Tryz.prog 120 := ⟨call_120⟩
theorem call_121 : okCall Tryz.prog 121 = true := by kernel_rfl
instance : CLT Tryz.prog 121 := ⟨call_121⟩
theorem call_122 : okCall Tryz.prog 122 = true := by kernel_rfl
instance : CLT Tryz.prog 122 := ⟨call_122⟩
theorem call_123 : okCall Tryz.prog 123 = true := by kernel_rfl
instance : CLT Tryz.prog 123 := ⟨call_123⟩
theorem call_124 : okCall Tryz.prog 124 = true := by kernel_rfl
instance : CLT Tryz.prog 124 := ⟨call_124⟩
theorem call_125 : okCall Tryz.prog 125 = true := by kernel_rfl
instance : CLT Tryz.prog 125 := ⟨call_125⟩
theorem call_126 : okCall Tryz.prog 126 = true := by kernel_rfl
instance : CLT Tryz.prog 126 := ⟨call_126⟩
theorem call_127 : okCall Tryz.prog 127 = true := by kernel_rfl
instance : CLT Tryz.prog 127 := ⟨call_127⟩
theorem call_128 : okCall Tryz.prog 128 = true := by kernel_rfl
instance : CLT Tryz.prog 128 := ⟨call_128⟩
theorem call_129 : okCall Tryz.prog 129 = true := by kernel_rfl
instance : CLT Tryz.prog 129 := ⟨call_129⟩
theorem call_130 : okCall Tryz.prog 130 = true := by kernel_rfl
instance : CLT Tryz.prog 130 := ⟨call_130⟩
theorem call_131 : okCall Tryz.prog 131 = true := by kernel_rfl
instance : CLT Tryz.prog 131 := ⟨call_131⟩
theorem call_132 : okCall Tryz.prog 132 = true := by kernel_rfl
instance : CLT Tryz.prog 132 := ⟨call_132⟩
theorem call_133 : okCall Tryz.prog 133 = true := by kernel_rfl
instance : CLT Tryz.prog 133 := ⟨call_133⟩
theorem call_134 : okCall Tryz.prog 134 = true := by kernel_rfl
instance : CLT Tryz.prog 134 := ⟨call_134⟩
theorem call_135 : okCall Tryz.prog 135 = true := by kernel_rfl
instance : CLT Tryz.prog 135 := ⟨call_135⟩
theorem call_136 : okCall Tryz.prog 136 = true := by kernel_rfl
instance : CLT Tryz.prog 136 := ⟨call_136⟩
theorem call_137 : okCall Tryz.prog 137 = true := by kernel_rfl
instance : CLT Tryz.prog 137 := ⟨call_137⟩
theorem call_138 : okCall Tryz.prog 138 = true := by kernel_rfl
instance : CLT Tryz.prog 138 := ⟨call_138⟩
theorem call_139 : okCall Tryz.prog 139 = true := by kernel_rfl
instance : CLT Tryz.prog 139 := ⟨call_139⟩
theorem call_140 : okCall Tryz.prog 140 = true := by kernel_rfl
instance : CLT Tryz.prog 140 := ⟨call_140⟩
theorem call_141 : okCall Tryz.prog 141 = true := by kernel_rfl
instance : CLT Tryz.prog 141 := ⟨call_141⟩
theorem call_142 : okCall Tryz.prog 142 = true := by kernel_rfl
instance : CLT Tryz.prog 142 := ⟨call_142⟩
theorem call_143 : okCall Tryz.prog 143 = true := by kernel_rfl
instance : CLT Tryz.prog 143 := ⟨call_143⟩
theorem call_144 : okCall Tryz.prog 144 = true := by kernel_rfl
instance : CLT Tryz.prog 144 := ⟨call_144⟩
theorem call_145 : okCall Tryz.prog 145 = true := by kernel_rfl
instance : CLT Tryz.prog 145 := ⟨call_145⟩
theorem call_146 : okCall Tryz.prog 146 = true := by kernel_rfl
instance : CLT Tryz.prog 146 := ⟨call_146⟩
theorem call_147 : okCall Tryz.prog 147 = true := by kernel_rfl
instance : CLT Tryz.prog 147 := ⟨call_147⟩
theorem call_148 : okCall Tryz.prog 148 = true := by kernel_rfl
instance : CLT Tryz.prog 148 := ⟨call_148⟩
theorem call_149 : okCall Tryz.prog 149 = true := by kernel_rfl
instance : CLT Tryz.prog 149 := ⟨call_149⟩
theorem call_150 : okCall Tryz.prog 150 = true := by kernel_rfl
instance : CLT Tryz.prog 150 := ⟨call_150⟩
theorem call_151 : okCall Tryz.prog 151 = true := by kernel_rfl
instance : CLT Tryz.prog 151 := ⟨call_151⟩
theorem call_152 : okCall Tryz.prog 152 = true := by kernel_rfl
instance : CLT Tryz.prog 152 := ⟨call_152⟩
theorem call_153 : okCall Tryz.prog 153 = true := by kernel_rfl
instance : CLT Tryz.prog 153 := ⟨call_153⟩
theorem call_154 : okCall Tryz.prog 154 = true := by kernel_rfl
instance : CLT Tryz.prog 154 := ⟨call_154⟩
theorem call_155 : okCall Tryz.prog 155 = true := by kernel_rfl
instance : CLT Tryz.prog 155 := ⟨call_155⟩
theorem call_156 : okCall Tryz.prog 156 = true := by kernel_rfl
instance : CLT Tryz.prog 156 := ⟨call_156⟩
theorem call_157 : okCall Tryz.prog 157 = true := by kernel_rfl
instance : CLT Tryz.prog 157 := ⟨call_157⟩
theorem call_158 : okCall Tryz.prog 158 = true := by kernel_rfl
instance : CLT Tryz.prog 158 := ⟨call_158⟩
theorem call_159 : okCall Tryz.prog 159 = true := by kernel_rfl
instance : CLT Tryz.prog 159 := ⟨call_159⟩
theorem call_160 : okCall Tryz.prog 160 = true := by kernel_rfl
instance : CLT Tryz.prog 160 := ⟨call_160⟩
theorem call_161 : okCall Tryz.prog 161 = true := by kernel_rfl
instance : CLT Tryz.prog 161 := ⟨call_161⟩
theorem call_162 : okCall Tryz.prog 162 = true := by kernel_rfl
instance : CLT Tryz.prog 162 := ⟨call_162⟩
theorem call_163 : okCall Tryz.prog 163 = true := by kernel_rfl
instance : CLT Tryz.prog 163 := ⟨call_163⟩
theorem call_164 : okCall Tryz.prog 164 = true := by kernel_rfl
instance : CLT Tryz.prog 164 := ⟨call_164⟩
theorem call_165 : okCall Tryz.prog 165 = true := by kernel_rfl
instance : CLT Tryz.prog 165 := ⟨call_165⟩
theorem call_166 : okCall Tryz.prog 166 = true := by kernel_rfl
instance : CLT Tryz.prog 166 := ⟨call_166⟩
theorem call_167 : okCall Tryz.prog 167 = true := by kernel_rfl
instance : CLT Tryz.prog 167 := ⟨call_167⟩
theorem call_168 : okCall Tryz.prog 168 = true := by kernel_rfl
instance : CLT Tryz.prog 168 := ⟨call_168⟩
theorem call_169 : okCall Tryz.prog 169 = true := by kernel_rfl
instance : CLT Tryz.prog 169 := ⟨call_169⟩
theorem call_170 : okCall Tryz.prog 170 = true := by kernel_rfl
instance : CLT Tryz.prog 170 := ⟨call_170⟩
theorem call_171 : okCall Tryz.prog 171 = true := by kernel_rfl
instance : CLT Tryz.prog 171 := ⟨call_171⟩
theorem call_172 : okCall Tryz.prog 172 = true := by kernel_rfl
instance : CLT Tryz.prog 172 := ⟨call_172⟩
theorem call_173 : okCall Tryz.prog 173 = true := by kernel_rfl
instance : CLT Tryz.prog 173 := ⟨call_173⟩
theorem call_174 : okCall Tryz.prog 174 = true := by kernel_rfl
instance : CLT Tryz.prog 174 := ⟨call_174⟩
theorem call_175 : okCall Tryz.prog 175 = true := by kernel_rfl
instance : CLT Tryz.prog 175 := ⟨call_175⟩
theorem call_176 : okCall Tryz.prog 176 = true := by kernel_rfl
instance : CLT Tryz.prog 176 := ⟨call_176⟩
theorem call_177 : okCall Tryz.prog 177 = true := by kernel_rfl
instance : CLT Tryz.prog 177 := ⟨call_177⟩
theorem call_178 : okCall Tryz.prog 178 = true := by kernel_rfl
instance : CLT Tryz.prog 178 := ⟨call_178⟩
theorem call_179 : okCall Tryz.prog 179 = true := by kernel_rfl
instance : CLT Tryz.prog 179 := ⟨call_179⟩
theorem call_180 : okCall Tryz.prog 180 = true := by kernel_rfl
instance : CLT Tryz.prog 180 := ⟨call_180⟩
theorem call_181 : okCall Tryz.prog 181 = true := by kernel_rfl
instance : CLT Tryz.prog 181 := ⟨call_181⟩
theorem call_182 : okCall Tryz.prog 182 = true := by kernel_rfl
instance : CLT Tryz.prog 182 := ⟨call_182⟩
theorem call_183 : okCall Tryz.prog 183 = true := by kernel_rfl
instance : CLT Tryz.prog 183 := ⟨call_183⟩
theorem call_184 : okCall Tryz.prog 184 = true := by kernel_rfl
instance : CLT Tryz.prog 184 := ⟨call_184⟩
theorem call_185 : okCall Tryz.prog 185 = true := by kernel_rfl
instance : CLT Tryz.prog 185 := ⟨call_185⟩
theorem call_186 : okCall Tryz.prog 186 = true := by kernel_rfl
instance : CLT Tryz.prog 186 := ⟨call_186⟩
theorem call_187 : okCall Tryz.prog 187 = true := by kernel_rfl
instance : CLT Tryz.prog 187 := ⟨call_187⟩
theorem call_188 : okCall Tryz.prog 188 = true := by kernel_rfl
instance : CLT Tryz.prog 188 := ⟨call_188⟩
theorem call_189 : okCall Tryz.prog 189 = true := by kernel_rfl
instance : CLT Tryz.prog 189 := ⟨call_189⟩
theorem call_190 : okCall Tryz.prog 190 = true := by kernel_rfl
instance : CLT Tryz.prog 190 := ⟨call_190⟩
theorem call_191 : okCall Tryz.prog 191 = true := by kernel_rfl
instance : CLT Tryz.prog 191 := ⟨call_191⟩
theorem call_192 : okCall Tryz.prog 192 = true := by kernel_rfl
instance : CLT Tryz.prog 192 := ⟨call_192⟩
theorem call_193 : okCall Tryz.prog 193 = true := by kernel_rfl
instance : CLT Tryz.prog 193 := ⟨call_193⟩
theorem call_194 : okCall Tryz.prog 194 = true := by kernel_rfl
instance : CLT Tryz.prog 194 := ⟨call_194⟩
theorem call_195 : okCall Tryz.prog 195 = true := by kernel_rfl
instance : CLT Tryz.prog 195 := ⟨call_195⟩
theorem call_196 : okCall Tryz.prog 196 = true := by kernel_rfl
instance : CLT Tryz.prog 196 := ⟨call_196⟩
theorem call_197 : okCall Tryz.prog 197 = true := by kernel_rfl
instance : CLT Tryz.prog 197 := ⟨call_197⟩
theorem call_198 : okCall Tryz.prog 198 = true := by kernel_rfl
instance : CLT Tryz.prog 198 := ⟨call_198⟩
theorem call_199 : okCall Tryz.prog 199 = true := by kernel_rfl
instance : CLT Tryz.prog 199 := ⟨call_199⟩
theorem call_200 : okCall Tryz.prog 200 = true := by kernel_rfl
instance : CLT Tryz.prog 200 := ⟨call_200⟩
theorem call_201 : okCall Tryz.prog 201 = true := by kernel_rfl
instance : CLT Tryz.prog 201 := ⟨call_201⟩
theorem call_202 : okCall Tryz.prog 202 = true := by kernel_rfl
instance : CLT Tryz.prog 202 := ⟨call_202⟩
theorem call_203 : okCall Tryz.prog 203 = true := by kernel_rfl
instance : CLT Tryz.prog 203 := ⟨call_203⟩
theorem call_204 : okCall Tryz.prog 204 = true := by kernel_rfl
instance : CLT Tryz.prog 204 := ⟨call_204⟩
theorem call_205 : okCall Tryz.prog 205 = true := by kernel_rfl
instance : CLT Tryz.prog 205 := ⟨call_205⟩
theorem call_206 : okCall Tryz.prog 206 = true := by kernel_rfl
instance : CLT Tryz.prog 206 := ⟨call_206⟩
theorem call_207 : okCall Tryz.prog 207 = true := by kernel_rfl
instance : CLT Tryz.prog 207 := ⟨call_207⟩
theorem call_208 : okCall Tryz.prog 208 = true := by kernel_rfl
instance : CLT Tryz.prog 208 := ⟨call_208⟩
theorem call_209 : okCall Tryz.prog 209 = true := by kernel_rfl
instance : CLT Tryz.prog 209 := ⟨call_209⟩
theorem call_210 : okCall Tryz.prog 210 = true := by kernel_rfl
instance : CLT Tryz.prog 210 := ⟨call_210⟩
theorem call_211 : okCall Tryz.prog 211 = true := by kernel_rfl
instance : CLT Tryz.prog 211 := ⟨call_211⟩
theorem call_212 : okCall Tryz.prog 212 = true := by kernel_rfl
instance : CLT Tryz.prog 212 := ⟨call_212⟩
theorem call_213 : okCall Tryz.prog 213 = true := by kernel_rfl
instance : CLT Tryz.prog 213 := ⟨call_213⟩
theorem call_214 : okCall Tryz.prog 214 = true := by kernel_rfl
instance : CLT Tryz.prog 214 := ⟨call_214⟩
theorem call_215 : okCall Tryz.prog 215 = true := by kernel_rfl
instance : CLT Tryz.prog 215 := ⟨call_215⟩
theorem call_216 : okCall Tryz.prog 216 = true := by kernel_rfl
instance : CLT Tryz.prog 216 := ⟨call_216⟩
theorem call_217 : okCall Tryz.prog 217 = true := by kernel_rfl
instance : CLT Tryz.prog 217 := ⟨call_217⟩
theorem call_218 : okCall Tryz.prog 218 = true := by kernel_rfl
instance : CLT Tryz.prog 218 := ⟨call_218⟩
theorem call_219 : okCall Tryz.prog 219 = true := by kernel_rfl
instance : CLT Tryz.prog 219 := ⟨call_219⟩
theorem call_220 : okCall Tryz.prog 220 = true := by kernel_rfl
instance : CLT Tryz.prog 220 := ⟨call_220⟩
theorem call_221 : okCall Tryz.prog 221 = true := by kernel_rfl
instance : CLT Tryz.prog 221 := ⟨call_221⟩
theorem call_222 : okCall Tryz.prog 222 = true := by kernel_rfl
instance : CLT Tryz.prog 222 := ⟨call_222⟩
theorem call_223 : okCall Tryz.prog 223 = true := by kernel_rfl
instance : CLT Tryz.prog 223 := ⟨call_223⟩
theorem call_224 : okCall Tryz.prog 224 = true := by kernel_rfl
instance : CLT Tryz.prog 224 := ⟨call_224⟩
theorem call_225 : okCall Tryz.prog 225 = true := by kernel_rfl
instance : CLT Tryz.prog 225 := ⟨call_225⟩
theorem call_226 : okCall Tryz.prog 226 = true := by kernel_rfl
instance : CLT Tryz.prog 226 := ⟨call_226⟩
theorem call_227 : okCall Tryz.prog 227 = true := by kernel_rfl
instance : CLT Tryz.prog 227 := ⟨call_227⟩
theorem call_228 : okCall Tryz.prog 228 = true := by kernel_rfl
instance : CLT Tryz.prog 228 := ⟨call_228⟩
theorem call_229 : okCall Tryz.prog 229 = true := by kernel_rfl
instance : CLT Tryz.prog 229 := ⟨call_229⟩
theorem call_230 : okCall Tryz.prog 230 = true := by kernel_rfl
instance : CLT Tryz.prog 230 := ⟨call_230⟩
theorem call_265 : okCall Tryz.prog 265 = true := by kernel_rfl
instance : CLT Tryz.prog 265 := ⟨call_265⟩
theorem call_287 : okCall Tryz.prog 287 = true := by kernel_rfl
instance : CLT Tryz.prog 287 := ⟨call_287⟩

end Ty
end Go.Proofs.YtobjojeliibinaaGreatDoor

/- The engine, part A: frames as lists of slots, resources with footprints, and the judgements over them (no program in sight). -/
namespace Go.Proofs.YtobjojeliibinaaGreatDoor
open Go
set_option linter.unusedVariables false
set_option linter.unusedSimpArgs false

/-! ### Frames -/
abbrev Env := List (Nat × Value)
def Env.get : Env → Nat → Value
  | [], _ => undef
  | (d, v) :: r, t => bif Nat.beq t d then v else Env.get r t

/-- A frame: how many slots; what is deferred; the round that it is. -/
structure Fm where
  nt : Nat
  ds : List Deferred := []
  ro : Option Nat := none
def fr (n : Fm) (e : Env) : Act := { tmps := Array.ofFn (n := n.nt) (fun i => Env.get e i.val), defers := n.ds }

def ev (n : Fm) (e : Env) : Operand → Value
  | .tmp t => bif Nat.blt t n.nt then Env.get e t else undef
  | .const v => v
  | .global g => .pointer (some ⟨g, 0, none⟩)
  | .func f => .func (.func f) #[] #[]

def pu : Option Tmp → Value → Env → Env
  | some d, v, e => (d, v) :: e
  | none, _, e => e

def enumE : Nat → List Value → Env
  | _, [] => []
  | k, v :: r => (k, v) :: enumE (k + 1) r

theorem fr_get (n : Fm) (e : Env) (t : Nat) : (fr n e).tmps.getD t undef = if t < n.nt then Env.get e t else undef := by
  simp only [fr, Array.getD_eq_getD_getElem?, Array.getElem?_ofFn]
  split <;> rfl

theorem fr_eval (n : Fm) (e : Env) : (fr n e).eval = ev n e := by
  funext x
  cases x with
  | tmp t =>
    show (fr n e).tmps.getD t undef = _
    rw [fr_get]
    simp only [ev]
    by_cases h : t < n.nt
    · rw [if_pos h, show Nat.blt t n.nt = true by rw [Nat.blt_eq]; exact h]; rfl
    · rw [if_neg h, show Nat.blt t n.nt = false from Bool.eq_false_iff.2 (fun h' => h (by rw [Nat.blt_eq] at h'; exact h'))]; rfl
  | const v => rfl
  | global g => rfl
  | func f => rfl

theorem fr_ext {n : Fm} {e e' : Env} (h : ∀ t, t < n.nt → Env.get e t = Env.get e' t) : fr n e = fr n e' := by
  simp only [fr, Act.mk.injEq, and_true]
  apply Array.ext
  · simp
  · intro i h1 h2
    simp only [Array.getElem_ofFn]
    exact h i (by simpa using h1)

theorem get_cons (d t : Nat) (v : Value) (e : Env) : Env.get ((d, v) :: e) t = if t = d then v else Env.get e t := by
  simp only [Env.get]
  by_cases h : t = d
  · subst h; simp
  · rw [if_neg h, show Nat.beq t d = false from Bool.eq_false_iff.2 (fun h' => h (Nat.eq_of_beq_eq_true h'))]; rfl

theorem fr_put (n : Fm) (e : Env) (d : Option Tmp) (v : Value) : (fr n e).put d v = fr n (pu d v e) := by
  cases d with
  | none => rfl
  | some d =>
    simp only [Act.put, fr, pu, Act.mk.injEq, and_true]
    apply Array.ext_getElem?
    intro i
    rw [Array.getElem?_setIfInBounds]
    simp only [Array.getElem?_ofFn, Array.size_ofFn, get_cons]
    by_cases h : d = i
    · subst h
      by_cases hn : d < n.nt <;> simp [hn]
    · have h' : ¬ i = d := fun e => h e.symm
      simp [h, h']

theorem get_enumE : ∀ (l : List Value) (k t : Nat), Env.get (enumE k l) t = if k ≤ t then l.getD (t - k) undef else undef
  | [], k, t => by simp [enumE, Env.get]
  | v :: r, k, t => by
    simp only [enumE]
    rw [get_cons, get_enumE r (k + 1) t]
    by_cases h : t = k
    · subst h; simp
    · rw [if_neg h]
      by_cases h' : k + 1 ≤ t
      · rw [if_pos h', if_pos (by omega)]
        obtain ⟨m, hm⟩ : ∃ m, t - k = m + 1 := ⟨t - k - 1, by omega⟩
        rw [hm, show t - (k + 1) = m by omega]
        simp
      · rw [if_neg h', if_neg (by omega)]

theorem fr_init (n : Nat) (args : Array Value) (h : args.size ≤ n) :
    ({ tmps := args ++ Array.replicate (n - args.size) undef, defers := [] } : Act) = fr ⟨n, [], none⟩ (enumE 0 args.toList) := by
  simp only [fr, Act.mk.injEq, and_true]
  apply Array.ext
  · simp; omega
  · intro i h1 h2
    simp only [Array.getElem_ofFn]
    rw [get_enumE, if_pos (Nat.zero_le _), Array.getElem_append]
    simp only [Nat.sub_zero, List.getD_eq_getElem?_getD, Array.getElem?_toList]
    split
    · rename_i h3; simp [h3]
    · rename_i h3; simp at h3; simp [h3]

/-! ### Resources -/
def okFz (n : Nat) (fz : Nat × Nat) : Prop := ∀ i, i < n → ¬ (fz.1 ≤ i ∧ i < fz.2)
/-- The block is there; if it is one of cells, none is frozen. -/
def okObj : Obj → Prop
  | .cells cs _ fz => okFz cs.size fz
  | _ => True
def okAt (w : World) (k : Nat) : Prop := ∃ o, w.heap[k]? = some o ∧ okObj o
theorem okAt.lt {w : World} {k : Nat} (h : okAt w k) : k < w.heap.size := by obtain ⟨o, h, _⟩ := h; exact (Array.getElem?_eq_some_iff.1 h).1
theorem okAt.mv {w w' : World} {k : Nat} (h : okAt w k) (hk : w'.heap[k]? = w.heap[k]?) : okAt w' k := by obtain ⟨o, h, h2⟩ := h; exact ⟨o, hk.trans h, h2⟩
/-- A part of memory that is owned: what it says of the world, and of just which blocks. -/
structure Res where
  on : World → (Nat → Prop) → Prop
  loc : ∀ {w w' : World} {F : Nat → Prop}, on w F → (∀ k, F k → w'.heap[k]? = w.heap[k]?) → on w' F
  ok : ∀ {w : World} {F : Nat → Prop}, on w F → ∀ k, F k → okAt w k
theorem Res.lt (r : Res) {w : World} {F : Nat → Prop} (h : r.on w F) (k : Nat) (hk : F k) : k < w.heap.size := (r.ok h k hk).lt

def stars : List Res → World → (Nat → Prop) → Prop
  | [], _, F => ∀ k, ¬ F k
  | r :: L, w, F => ∃ F1 F2, r.on w F1 ∧ stars L w F2 ∧ (∀ k, F k ↔ F1 k ∨ F2 k) ∧ ∀ k, F1 k → ¬ F2 k

theorem stars_loc : ∀ {L : List Res} {w w' : World} {F : Nat → Prop}, stars L w F → (∀ k, F k → w'.heap[k]? = w.heap[k]?) → stars L w' F
  | [], _, _, _, h, _ => h
  | r :: L, w, w', F, ⟨F1, F2, h1, h2, hF, hd⟩, hk =>
    ⟨F1, F2, r.loc h1 fun k h => hk k ((hF k).2 (.inl h)), stars_loc h2 fun k h => hk k ((hF k).2 (.inr h)), hF, hd⟩

theorem stars_ok : ∀ {L : List Res} {w : World} {F : Nat → Prop}, stars L w F → ∀ k, F k → okAt w k
  | [], _, _, h, k, hk => absurd hk (h k)
  | r :: L, w, F, ⟨F1, F2, h1, h2, hF, _⟩, k, hk => ((hF k).1 hk).elim (r.ok h1 k) (stars_ok h2 k)
theorem stars_lt {L : List Res} {w : World} {F : Nat → Prop} (h : stars L w F) (k : Nat) (hk : F k) : k < w.heap.size := (stars_ok h k hk).lt

theorem fp_eq {F G : Nat → Prop} (h : ∀ k, F k ↔ G k) : F = G := funext fun k => propext (h k)

/-- r is one of L, and the others are L'. -/
inductive Pick : List Res → Res → List Res → Prop
  | here {r : Res} {L : List Res} : Pick (r :: L) r L
  | there {x r : Res} {L L' : List Res} : Pick L r L' → Pick (x :: L) r (x :: L')

theorem Pick.stars {L L' : List Res} {r : Res} (h : Pick L r L') : ∀ {w : World} {F : Nat → Prop}, stars L w F → stars (r :: L') w F := by
  induction h with
  | here => exact fun h => h
  | @there x r L L' _ ih =>
    rintro w F ⟨F1, F2, h1, h2, hF, hd⟩
    obtain ⟨G1, G2, g1, g2, hG, gd⟩ := ih h2
    refine ⟨G1, fun k => F1 k ∨ G2 k, g1, ⟨F1, G2, h1, g2, fun _ => Iff.rfl, fun k hk hk' => hd k hk ((hG k).2 (.inr hk'))⟩, fun k => ?_, ?_⟩
    · rw [hF, hG]; constructor
      · rintro (h | h | h) <;> simp [h]
      · rintro (h | h | h) <;> simp [h]
    · rintro k hk (h | h)
      · exact hd k h ((hG k).2 (.inl hk))
      · exact gd k hk h

/-- M are some of L, and the others are L'. -/
inductive Sel : List Res → List Res → List Res → Prop
  | nil {L : List Res} : Sel L [] L
  | cons {L L1 L' M : List Res} {r : Res} : Pick L r L1 → Sel L1 M L' → Sel L (r :: M) L'

theorem Sel.split {L M L' : List Res} (h : Sel L M L') : ∀ {w : World} {F : Nat → Prop}, stars L w F →
    ∃ F1 F2, stars M w F1 ∧ stars L' w F2 ∧ (∀ k, F k ↔ F1 k ∨ F2 k) ∧ ∀ k, F1 k → ¬ F2 k := by
  induction h with
  | nil => exact fun {w F} h => ⟨fun _ => False, F, fun _ h => h, h, fun k => by simp, fun k h => h.elim⟩
  | @cons L L1 L' M r hp _ ih =>
    intro w F h
    obtain ⟨F1, F2, h1, h2, hF, hd⟩ := hp.stars h
    obtain ⟨G1, G2, g1, g2, hG, gd⟩ := ih h2
    refine ⟨fun k => F1 k ∨ G1 k, G2, ⟨F1, G1, h1, g1, fun _ => Iff.rfl, fun k hk hk' => hd k hk ((hG k).2 (.inl hk'))⟩, g2, fun k => ?_, ?_⟩
    · rw [hF, hG]; constructor
      · rintro (h | h | h) <;> simp [h]
      · rintro ((h | h) | h) <;> simp [h]
    · rintro k (hk | hk) h
      · exact hd k hk ((hG k).2 (.inr h))
      · exact gd k hk h

theorem stars_append : ∀ {M L : List Res} {w : World} {F1 F2 : Nat → Prop}, stars M w F1 → stars L w F2 → (∀ k, F1 k → ¬ F2 k) →
    stars (M ++ L) w (fun k => F1 k ∨ F2 k)
  | [], L, w, F1, F2, h1, h2, _ => by
    have : (fun k => F1 k ∨ F2 k) = F2 := fp_eq fun k => ⟨fun h => h.elim (fun h => absurd h (h1 k)) id, .inr⟩
    rw [this]; exact h2
  | r :: M, L, w, F1, F2, ⟨G1, G2, g1, g2, hG, gd⟩, h2, hd => by
    have := stars_append (F1 := G2) g2 h2 (fun k hk => hd k ((hG k).2 (.inr hk)))
    refine ⟨G1, _, g1, this, fun k => ?_, ?_⟩
    · show F1 k ∨ F2 k ↔ _
      rw [hG]; exact or_assoc
    · rintro k hk (h | h)
      · exact gd k hk h
      · exact hd k ((hG k).2 (.inl hk)) h

theorem stars_split : ∀ {M L : List Res} {w : World} {F : Nat → Prop}, stars (M ++ L) w F →
    ∃ F1 F2, stars M w F1 ∧ stars L w F2 ∧ (∀ k, F k ↔ F1 k ∨ F2 k) ∧ ∀ k, F1 k → ¬ F2 k
  | [], L, w, F, h => ⟨fun _ => False, F, fun _ h => h, h, fun k => by simp, fun k h => h.elim⟩
  | r :: M, L, w, F, ⟨F1, F2, h1, h2, hF, hd⟩ => by
    obtain ⟨G1, G2, g1, g2, hG, gd⟩ := stars_split h2
    refine ⟨fun k => F1 k ∨ G1 k, G2, ⟨F1, G1, h1, g1, fun _ => Iff.rfl, fun k hk hk' => hd k hk ((hG k).2 (.inl hk'))⟩, g2, fun k => ?_, ?_⟩
    · rw [hF, hG]; exact or_assoc.symm
    · rintro k (hk | hk) h
      · exact hd k hk ((hG k).2 (.inr h))
      · exact gd k hk h

/-! ### Steps of the world -/
/-- From w (of which F is owned) to w' (of which F' is owned): what was there and wasn't owned is as it was. -/
structure Stp (w : World) (F : Nat → Prop) (w' : World) (F' : Nat → Prop) : Prop where
  os : w'.os = w.os
  tape : w'.tape = w.tape
  output : w'.output = w.output
  size : w.heap.size ≤ w'.heap.size
  block : ∀ k, k < w.heap.size → ¬ F k → w'.heap[k]? = w.heap[k]?
  own : ∀ k, F' k → F k ∨ w.heap.size ≤ k

theorem Stp.refl (w : World) (F : Nat → Prop) : Stp w F w F := ⟨rfl, rfl, rfl, Nat.le_refl _, fun _ _ _ => rfl, fun _ h => .inl h⟩

theorem Stp.trans {w0 w1 w2 : World} {F0 F1 F2 : Nat → Prop} (h : Stp w0 F0 w1 F1) (k : Stp w1 F1 w2 F2) : Stp w0 F0 w2 F2 where
  os := k.os.trans h.os
  tape := k.tape.trans h.tape
  output := k.output.trans h.output
  size := Nat.le_trans h.size k.size
  block := fun i hi hn => (k.block i (Nat.lt_of_lt_of_le hi h.size) (fun hf => (h.own i hf).elim hn (fun h' => absurd h' (by omega)))).trans (h.block i hi hn)
  own := fun i hi => (k.own i hi).elim (h.own i) (fun h' => .inr (Nat.le_trans h.size h'))

theorem Stp.weak {w w' : World} {F F' G : Nat → Prop} (h : Stp w F w' F') (hg : ∀ k, G k → F' k) : Stp w F w' G :=
  ⟨h.os, h.tape, h.output, h.size, h.block, fun k hk => h.own k (hg k hk)⟩

/-- A step of a part, beside what stays. -/
theorem Stp.frame {w w' : World} {F1 F2 F' : Nat → Prop} (h : Stp w F1 w' F') : Stp w (fun k => F1 k ∨ F2 k) w' (fun k => F' k ∨ F2 k) :=
  ⟨h.os, h.tape, h.output, h.size, fun k hk hn => h.block k hk (fun h => hn (.inl h)), fun k hk => hk.elim (fun hk => (h.own k hk).imp .inl id) (fun h => .inl (.inr h))⟩

/-- The world at hand: L is owned, and all that was there at the start, but F0, is as it was. -/
def St (w0 : World) (F0 : Nat → Prop) (L : List Res) (w : World) : Prop := ∃ F, stars L w F ∧ Stp w0 F0 w F

theorem St.init {w : World} {F : Nat → Prop} {L : List Res} (h : stars L w F) : St w F L w := ⟨F, h, Stp.refl w F⟩
theorem St.conv {w0 : World} {F0 : Nat → Prop} {L L' M N : List Res} {w : World} (h : St w0 F0 L w) (hs : Sel L M L')
    (hc : ∀ w F, stars M w F → stars N w F) : St w0 F0 (N ++ L') w := by
  obtain ⟨F, hF, hst⟩ := h
  obtain ⟨F1, F2, h1, h2, hE, hd⟩ := hs.split hF
  have := stars_append (hc w F1 h1) h2 hd
  exact ⟨F, by rw [fp_eq hE]; exact this, hst⟩

/-- What isn't wanted any more is let go. -/
theorem St.sel {w0 : World} {F0 : Nat → Prop} {L L' M : List Res} {w : World} (h : St w0 F0 L w) (hs : Sel L M L') : St w0 F0 M w := by
  obtain ⟨F, hF, hst⟩ := h
  obtain ⟨F1, F2, h1, h2, hE, hd⟩ := hs.split hF
  exact ⟨F1, h1, hst.weak fun k hk => (hE k).2 (.inl hk)⟩

/-- A callee's step: it owns M of L; the rest stays. -/
theorem St.call {w0 : World} {F0 : Nat → Prop} {L' N : List Res} {w w' : World} {F F1 F2 : Nat → Prop} (hst : Stp w0 F0 w F)
    (h2 : stars L' w F2) (hE : ∀ k, F k ↔ F1 k ∨ F2 k) (hd : ∀ k, F1 k → ¬ F2 k) (h : St w F1 N w') : St w0 F0 (N ++ L') w' := by
  obtain ⟨G, hG, hs⟩ := h
  have h2' : stars L' w' F2 := stars_loc h2 fun k hk => hs.block k (stars_lt h2 k hk) (fun h1 => hd k h1 hk)
  refine ⟨fun k => G k ∨ F2 k, stars_append hG h2' ?_, ?_⟩
  · intro k hk hk2
    rcases hs.own k hk with h1 | h1
    · exact hd k h1 hk2
    · exact absurd (stars_lt h2 k hk2) (by omega)
  · have hs' := hs.frame (F2 := F2)
    rw [← fp_eq hE] at hs'
    exact hst.trans hs'

/-- What was there at the start and wasn't owned is there. -/
theorem Stp.old {w0 w : World} {F0 F : Nat → Prop} (h : Stp w0 F0 w F) {k : Nat} (hk : k < w0.heap.size) (hn : ¬ F0 k) : w.heap[k]? = w0.heap[k]? ∧ ¬ F k :=
  ⟨h.block k hk hn, fun hf => (h.own k hf).elim hn (fun h' => absurd h' (by omega))⟩

/-! ### The common resources -/

/-- Block g: just the cells cs of element type T; none is frozen. -/
def blk (g : Nat) (T : TypeId) (cs : List Value) : Res where
  on w F := (∀ k, F k ↔ k = g) ∧ ∃ fz, w.heap[g]? = some (.cells cs.toArray T fz) ∧ okFz cs.length fz
  loc := fun ⟨hF, fz, h, hz⟩ hk => ⟨hF, fz, (hk g ((hF g).2 rfl)).trans h, hz⟩
  ok := fun ⟨hF, fz, h, hz⟩ k hk => by
    rw [(hF k).1 hk]
    exact ⟨_, h, hz⟩

/-- A fact, no memory. -/
def pureR (p : Prop) : Res where
  on _ F := (∀ k, ¬ F k) ∧ p
  loc := fun h _ => h
  ok := fun ⟨h, _⟩ k hk => absurd hk (h k)

def exR {α : Type} (f : α → Res) : Res where
  on w F := ∃ x, (f x).on w F
  loc := fun ⟨x, h⟩ hk => ⟨x, (f x).loc h hk⟩
  ok := fun ⟨x, h⟩ => (f x).ok h

/-- Several as one. -/
def allR (L : List Res) : Res where
  on := stars L
  loc := stars_loc
  ok := stars_ok

/-- What is read, in just these blocks (which blocks is left open). -/
def rdR (φ : World → (Nat → Prop) → Prop) (hloc : ∀ {w w' : World} {F : Nat → Prop}, φ w F → (∀ k, k < w.heap.size → F k → w'.heap[k]? = w.heap[k]?) → φ w' F) : Res where
  on w F := φ w F ∧ ∀ k, F k → okAt w k
  loc := fun {w w' F} ⟨h, hl⟩ hk => ⟨hloc h fun k _ hF => hk k hF, fun k hF => (hl k hF).mv (hk k hF)⟩
  ok := fun ⟨_, hl⟩ => hl

theorem stars_one {r : Res} {w : World} {F : Nat → Prop} (h : r.on w F) : stars [r] w F :=
  ⟨F, fun _ => False, h, fun _ h => h, fun k => by simp, fun _ _ h => h⟩
theorem stars_one' {r : Res} {w : World} {F : Nat → Prop} (h : stars [r] w F) : r.on w F := by
  obtain ⟨F1, F2, h1, h2, hF, _⟩ := h
  have : F = F1 := fp_eq fun k => (hF k).trans ⟨fun h => h.elim id (fun h => absurd h (h2 k)), .inl⟩
  rw [this]; exact h1
theorem stars_pure {p : Prop} {L : List Res} {w : World} {F : Nat → Prop} (h : stars (pureR p :: L) w F) : p ∧ stars L w F := by
  obtain ⟨F1, F2, ⟨h0, hp⟩, h2, hF, _⟩ := h
  have : F = F2 := fp_eq fun k => (hF k).trans ⟨fun h => h.elim (fun h => absurd h (h0 k)) id, .inr⟩
  exact ⟨hp, by rw [this]; exact h2⟩
theorem stars_pure_mk {p : Prop} {L : List Res} {w : World} {F : Nat → Prop} (hp : p) (h : stars L w F) : stars (pureR p :: L) w F :=
  ⟨fun _ => False, F, ⟨fun _ h => h, hp⟩, h, fun k => by simp, fun _ h => h.elim⟩
theorem stars_all {M L : List Res} {w : World} {F : Nat → Prop} (h : stars (allR M :: L) w F) : stars (M ++ L) w F := by
  obtain ⟨F1, F2, h1, h2, hF, hd⟩ := h
  rw [fp_eq hF]; exact stars_append h1 h2 hd
theorem stars_all_mk {M L : List Res} {w : World} {F : Nat → Prop} (h : stars (M ++ L) w F) : stars (allR M :: L) w F := by
  obtain ⟨F1, F2, h1, h2, hF, hd⟩ := stars_split h
  exact ⟨F1, F2, h1, h2, hF, hd⟩
theorem stars_ex {α : Type} {f : α → Res} {L : List Res} {w : World} {F : Nat → Prop} (h : stars (exR f :: L) w F) : ∃ x, stars (f x :: L) w F := by
  obtain ⟨F1, F2, ⟨x, h1⟩, h2, hF, hd⟩ := h
  exact ⟨x, F1, F2, h1, h2, hF, hd⟩
theorem stars_ex_mk {α : Type} {f : α → Res} {L : List Res} {w : World} {F : Nat → Prop} (x : α) (h : stars (f x :: L) w F) : stars (exR f :: L) w F := by
  obtain ⟨F1, F2, h1, h2, hF, hd⟩ := h
  exact ⟨F1, F2, ⟨x, h1⟩, h2, hF, hd⟩

theorem stars_pick {L L' : List Res} {r : Res} (h : Pick L r L') {w : World} {F : Nat → Prop} (hs : stars L w F) : ∃ F1, r.on w F1 ∧ ∀ k, F1 k → F k := by
  obtain ⟨F1, F2, h1, _, hF, _⟩ := h.stars hs
  exact ⟨F1, h1, fun k hk => (hF k).2 (.inl hk)⟩
end Go.Proofs.YtobjojeliibinaaGreatDoor

/- The engine, part X: code in a frame of any round: rules over the fenced walk, the fence letting all in. -/
namespace Go.Proofs.YtobjojeliibinaaGreatDoor
open Go
set_option linter.unusedVariables false
set_option linter.unusedSimpArgs false
/-- All is let in; the frame is a round of this loop, or none. -/
def FR (ro : Option Nat) : Fence := { Fence.wide with round := ro }
theorem callsIn_FR {ro : Option Nat} {n : Nat} {P : Program} {f : FuncId} {args : Array Value} {w : World} {R : Ending → World → Prop} : CallsIn (FR ro) n P f args w R ↔ Calls P f args w R :=
  Iff.trans (Iff.of_eq rfl) (callsIn_wide (n := n))
theorem deep_FR (ro : Option Nat) {n : Nat} : (FR ro).depth.isSome = true → 1 ≤ n := fun h => by simp [FR, Fence.wide] at h
section
variable {ro : Option Nat} {P : Program} {ops : Array Oper} {w : World}
theorem semAt_ok {o : Oper} {ρ : Operand → Value} {r : Next} {w' : World} (hne : ∀ d, r ≠ .defer d) (h : (execOp ρ o).run P w = .ok r w') : (o.semAt ro ρ).run P w = .ok r w' := by
  by_cases hd : ∃ c, o.op = .defer c
  · obtain ⟨c, hc⟩ := hd
    exfalso
    unfold execOp at h
    rw [hc] at h
    simp only [Sem.run_bind] at h
    generalize (resolve ρ c o.type).run P w = q at h
    cases q with
    | ok d w2 =>
      simp only [Result.andThen_ok, Sem.run_pure, Result.ok.injEq] at h
      exact hne _ h.1.symm
    | halt x w2 => cases h
  · rw [Oper.semAt_eq _ _ _ (fun c hc => hd ⟨c, hc⟩)]; exact h
theorem Oper.wpIn_value {o : Oper} {a : Act} {K : Act → World → Prop} {Q : Exit → Act → World → Prop} {v : Value} {w' : World} (h : (execOp a.eval o).run P w = .ok (.value v) w') (k : K (a.put o.dst v) w') : o.wpIn (FR ro) 0 P a w K Q := by
  refine ⟨fun _ _ => trivial, ?_⟩
  rw [show (FR ro).round = ro from rfl, semAt_ok (by intro d h; cases h) h]
  exact k
theorem Oper.wpIn_skip {o : Oper} {a : Act} {K : Act → World → Prop} {Q : Exit → Act → World → Prop} {w' : World} (h : (execOp a.eval o).run P w = .ok .skip w') (k : K (a.put o.dst undef) w') : o.wpIn (FR ro) 0 P a w K Q := by
  refine ⟨fun _ _ => trivial, ?_⟩
  rw [show (FR ro).round = ro from rfl, semAt_ok (by intro d h; cases h) h]
  exact k
theorem Oper.wpIn_enter {o : Oper} {a : Act} {K : Act → World → Prop} {Q : Exit → Act → World → Prop} {f : FuncId} {args : Array Value} {w' : World} (h : (execOp a.eval o).run P w = .ok (.enter f args) w')
    (k : Calls P f args w' fun e w'' => ∃ v, e = .returned v ∧ K (a.put o.dst v) w'') : o.wpIn (FR ro) 0 P a w K Q := by
  refine ⟨fun _ _ => trivial, ?_⟩
  rw [show (FR ro).round = ro from rfl, semAt_ok (by intro d h; cases h) h]
  refine ⟨deep_FR ro, callsIn_FR.2 (k.mono ?_)⟩
  rintro e w'' ⟨v, rfl, hk⟩
  exact hk
theorem Oper.wpIn_round {o : Oper} {a : Act} {K : Act → World → Prop} {Q : Exit → Act → World → Prop} {l : Nat} {f : FuncId} {tmps : Array Value} {asg bd : Code} {w' : World} (h : (execOp a.eval o).run P w = .ok (.round l f tmps asg bd) w')
    (k : RoundIn (FR ro) 0 P l f tmps asg bd w' fun e w'' => ∃ v, e = .returned v ∧ K (a.put o.dst v) w'') : o.wpIn (FR ro) 0 P a w K Q := by
  refine ⟨fun _ _ => trivial, ?_⟩
  rw [show (FR ro).round = ro from rfl, semAt_ok (by intro d h; cases h) h]
  refine ⟨deep_FR ro, k.mono ?_⟩
  rintro e w'' ⟨v, rfl, hk⟩
  exact hk
theorem Oper.wpIn_of_still {o : Oper} {a : Act} {K : Act → Prop} {K' : Act → World → Prop} {Q' : Exit → Act → World → Prop} (h : ∀ a, K a → K' a w) (hh : o.still P a w K) : o.wpIn (FR ro) 0 P a w K' Q' := by
  unfold Oper.still at hh
  generalize hr : (execOp a.eval o).run P w = r at hh
  cases r with
  | ok m w' =>
    cases m <;> simp only [Oper.stillUpon] at hh
    case value v => obtain ⟨rfl, h2⟩ := hh; exact Oper.wpIn_value hr (h _ h2)
    case skip => obtain ⟨rfl, h2⟩ := hh; exact Oper.wpIn_skip hr (h _ h2)
    case enter f args =>
      obtain ⟨rfl, v, hc, hn⟩ := hh
      exact Oper.wpIn_enter hr (hc.mono fun e w'' ⟨he, hw⟩ => ⟨v, he, by subst hw; exact h _ hn⟩)
  | halt x w' => simp only [Oper.stillUpon] at hh
theorem wpOpIn_of_stOp {i : Nat} {a : Act} {K : Act → Prop} {K' : Act → World → Prop} {Q' : Exit → Act → World → Prop} (h : ∀ a, K a → K' a w) (hh : stOp P ops w i K a) : wpOpIn (FR ro) 0 P ops Q' i K' a w := by
  unfold stOp at hh
  unfold wpOpIn
  split
  · rename_i ho; simp only [ho] at hh; exact h _ hh
  · rename_i o ho
    simp only [ho] at hh
    split
    · rename_i hw; simp only [hw, if_true] at hh; exact Oper.wpIn_of_still h hh
    · rename_i hw; simp only [hw] at hh; exact ⟨fun _ _ => trivial, h _ hh⟩
theorem wpAnyIn_of_still {md : Region.Mode} {Q : Act → Prop} {Q' : Exit → Act → World → Prop} (hQ : ∀ a, Q a → Q' .normal a w) : ∀ (fuel : Nat) (listed : Array Bool) (a : Act),
    wpAnyS P md ops w Q fuel listed a → wpAnyIn (FR ro) 0 P md ops Q' fuel listed a w
  | 0, _, _, h => ⟨h.1, hQ _ h.2⟩
  | fuel + 1, _, _, h => ⟨fun h0 => hQ _ (h.1 h0), fun i hi => wpOpIn_of_stOp (fun a' => wpAnyIn_of_still hQ fuel _ a') (h.2 i hi)⟩
theorem wpIn_region_S {id : Nat} {Q : Exit → Act → World → Prop} {a : Act} {l : List Oper} (hm : P.follows .mixedOrders = true) (hB : Region.lexB .any l.toArray = true)
    (h : wpStill P l.toArray { w with drawn := w.drawn + 1 } (fun a' => Q .normal a' { w with drawn := w.drawn + 1 }) l a) : (Code.region id l.toArray true).wpIn (FR ro) 0 P Q a w := by
  simp only [Region.lexB, Bool.and_eq_true] at hB
  refine wpIn_region_any hm (wpAnyIn_of_still (Q := fun a' => Q .normal a' { w with drawn := w.drawn + 1 }) (fun _ h => h) _ _ _ ?_)
  have := wpAnyS_lex (md := .any) hB.1 l 0 (Array.replicate l.toArray.size false) a (by simp) (by simpa using hB.2) h
  simpa using this
theorem wpAnyIn_of_head {md : Region.Mode} {n g : Nat} {L : Array Bool → Act → Prop} {Q' : Exit → Act → World → Prop} (hL : ∀ listed a, L listed a → wpAnyIn (FR ro) 0 P md ops Q' g listed a w) :
    ∀ (f : Nat) (listed : Array Bool) (a : Act), wpAnyL P md ops w n L f listed a → wpAnyIn (FR ro) 0 P md ops Q' (f + g) listed a w
  | 0, listed, a, h => by rw [Nat.zero_add]; exact hL _ _ h
  | f + 1, listed, a, h => by
    rw [show f + 1 + g = (f + g) + 1 by omega]
    exact ⟨fun h0 => absurd h0 h.1, fun i hi => wpOpIn_of_stOp (fun a' h' => wpAnyIn_of_head hL f _ a' h') (h.2 i hi).2⟩
theorem wpAnyIn_of_seq {md : Region.Mode} {Q' : Exit → Act → World → Prop} : ∀ (l : List Oper) (k : Nat) (listed : Array Bool) (a : Act) (w : World), (∀ j, l[j]? = ops[k + j]?) →
    Region.seqB md ops l.length k listed = true → wpListIn (FR ro) 0 P ops Q' l a w → wpAnyIn (FR ro) 0 P md ops Q' l.length listed a w
  | [], _, _, _, _, _, hB, h => ⟨by simpa [Region.seqB] using hB, h⟩
  | o :: l, k, listed, a, w, hl, hB, h => by
    have h0 : ops[k]? = some o := by simpa using (hl 0).symm
    simp only [List.length_cons, Region.seqB, Bool.and_eq_true, decide_eq_true_eq] at hB
    refine ⟨fun h1 => (by rw [hB.1] at h1; cases h1), fun i hi => ?_⟩
    rw [hB.1] at hi
    have hik : i = k := by simpa using hi
    subst hik
    have hw : wpOpIn (FR ro) 0 P ops Q' i (wpListIn (FR ro) 0 P ops Q' l) a w := by unfold wpOpIn; simp only [h0]; exact h
    exact wpOpIn_mono (fun a' w' h' => wpAnyIn_of_seq l (i + 1) _ a' w' (fun j => by have := hl (j + 1); simpa [Nat.add_assoc, Nat.add_comm 1 j] using this) hB.2 h') hw
theorem wpIn_region_T {id : Nat} {Q : Exit → Act → World → Prop} {a : Act} {l : List Oper} (n : Nat) (hm : P.follows .mixedOrders = true) (hB : Region.lexTailB .any l.toArray n = true)
    (h : wpStill P l.toArray { w with drawn := w.drawn + 1 } (fun a' => wpListIn (FR ro) 0 P l.toArray Q (l.drop n) a' { w with drawn := w.drawn + 1 }) (l.take n) a) : (Code.region id l.toArray true).wpIn (FR ro) 0 P Q a w := by
  simp only [Region.lexTailB, Bool.and_eq_true, decide_eq_true_eq] at hB
  obtain ⟨⟨⟨⟨hsel, hn⟩, hs⟩, hc⟩, hlex⟩ := hB
  have hn' : n < l.length := by simpa using hn
  have htl : (l.take n).length = n := by simp; omega
  have hdl : (l.drop n).length = l.toArray.size - n := by simp
  have inv0 : HeadInv .any l.toArray n (Array.replicate l.toArray.size false) :=
    ⟨by simp, fun j oj _ hl => (by rw [getD_replicate_false] at hl; cases hl), fun t _ ht => getD_in (by simpa using ht) (getD_replicate_false _ _)⟩
  have H := wpAnyL_lex (md := .any) (g := l.toArray.size - n) hsel hs hc hn (l.take n) 0 _ a (fun j hj => by
    have hj' : j < n := by rw [htl] at hj; exact hj
    simp [hj']) (by simpa using htl) inv0 (by rw [htl]; exact hlex) h
  refine wpIn_region_any hm ?_
  have := wpAnyIn_of_head (ro := ro) (Q' := Q) (g := l.toArray.size - n) (fun listed a' hL => by
    have := wpAnyIn_of_seq (ro := ro) (md := .any) (Q' := Q) (l.drop n) n listed a' { w with drawn := w.drawn + 1 } (fun j => by simp [List.getElem?_drop]) (by rw [hdl]; exact hL.1) hL.2
    rwa [hdl] at this) _ _ _ H
  rw [htl, show n + (l.toArray.size - n) = l.toArray.size by omega] at this
  exact this
/-! ### One operation ahead of another one -/
def noDef (ops : Array Oper) : Bool := ops.all fun o => match o.op with | .defer _ => false | _ => true
theorem noDef_spec (h : noDef ops = true) {j : Nat} {o : Oper} (hj : ops[j]? = some o) : ∀ c, o.op ≠ .defer c := fun c hc => by
  have h1 := Array.all_eq_true.1 h j (Array.getElem?_eq_some_iff.1 hj).1
  rw [(Array.getElem?_eq_some_iff.1 hj).2] at h1
  simp [hc] at h1
theorem YieldsIf.wpOpIn {S : World → Prop} {Q : Exit → Act → World → Prop} {i : Nat} {o : Oper} {v : Value} {a : Act} (hi : ops[i]? = some o) (hy : YieldsIf P ops S o v a)
    {K : Act → World → Prop} (hS : S w) (h : K (a.put o.dst v) w) : wpOpIn (FR ro) 0 P ops Q i K a w := by
  unfold Go.wpOpIn
  simp only [hi]
  rcases hy with ⟨hw, hv⟩ | ⟨hw, rfl⟩
  · simp only [hw, if_true]; exact Oper.wpIn_value (hv w hS) h
  · simp only [hw, Bool.false_eq_true, if_false]; exact ⟨fun _ _ => trivial, h⟩
theorem wpOpIn_putIf {S : World → Prop} {Q : Exit → Act → World → Prop} {j : Nat} {oi oj : Oper} {v : Value} (hj : ops[j]? = some oj) (hap : oi.apart ops oj = true)
    (hsi : ∀ cs b, oi.op ≠ .select cs b) (hsj : ∀ cs b, oj.op ≠ .select cs b) (hnd : ∀ c, oj.op ≠ .defer c)
    (hQ : ∀ c a w, Q (.panic c) (a.put oi.dst v) w → Q (.panic c) a w) {K : Act → World → Prop} {a : Act}
    (hy : YieldsIf P ops S oi v a) (h : wpOpIn (FR ro) 0 P ops Q j K (a.put oi.dst v) w) :
    wpOpIn (FR ro) 0 P ops Q j (fun a' w' => YieldsIf P ops S oi v a' ∧ K (a'.put oi.dst v) w') a w := by
  obtain ⟨h1, h2, h3⟩ := Oper.apart_spec hap
  have keep : ∀ (a : Act), YieldsIf P ops S oi v a → ∀ u, YieldsIf P ops S oi v (a.put oj.dst u) := fun a hy u =>
    hy.of_same (execOp_put oi hsi a oj.dst u h3) (wanted_put oi a oj.dst u h3)
  have keepD : ∀ d, YieldsIf P ops S oi v { a with defers := d :: a.defers } := fun d => hy.of_same rfl rfl
  unfold Go.wpOpIn at *
  simp only [hj] at *
  rw [wanted_put oj a oi.dst v h1] at h
  split
  · rename_i hw
    simp only [hw, if_true] at h
    unfold Oper.wpIn at *
    refine ⟨fun _ _ => trivial, ?_⟩
    have h := h.2
    rw [Oper.semAt_eq _ _ _ hnd, execOp_put oj hsj a oi.dst v h1] at h
    rw [Oper.semAt_eq _ _ _ hnd]
    generalize (execOp a.eval oj).run P w = r at *
    cases r with
    | ok m w' =>
      cases m <;> simp only [Oper.uponIn] at h ⊢
      case value u => exact ⟨keep a hy u, by rw [← Act.put_comm a v u h2]; exact h⟩
      case skip => exact ⟨keep a hy _, by rw [← Act.put_comm a v undef h2]; exact h⟩
      case defer d =>
        refine ⟨keep _ (keepD d) _, ?_⟩
        rw [← Act.put_comm _ v undef h2, ← Act.put_defers]
        exact h
      case enter f args =>
        refine ⟨h.1, CallsIn.mono h.2 fun e w'' he => ?_⟩
        cases e with
        | returned u => exact ⟨keep a hy u, by rw [← Act.put_comm a v u h2]; exact he⟩
        | panicked c => exact hQ _ _ _ he
        | outgrown => exact he
      case row row args => exact ⟨h.1, RowsIn.mono h.2 fun u w'' he => ⟨keep a hy u, by rw [← Act.put_comm a v u h2]; exact he⟩⟩
      case round l f tmps asg bd =>
        refine ⟨h.1, RoundIn.mono h.2 fun e w'' he => ?_⟩
        cases e with
        | returned u => exact ⟨keep a hy u, by rw [← Act.put_comm a v u h2]; exact he⟩
        | panicked c => exact hQ _ _ _ he
        | outgrown => exact he
    | halt x w' =>
      cases x <;> simp only [Oper.uponIn] at h ⊢
      case panic u => exact hQ _ _ _ h
  · rename_i hw
    simp only [hw] at h
    exact ⟨fun _ _ => trivial, keep a hy _, by rw [← Act.put_comm a v undef h2]; exact h.2⟩
end
end Go.Proofs.YtobjojeliibinaaGreatDoor

/- The engine, part B: the judgements over code and operations, and the rules of straight code. -/
namespace Go.Proofs.YtobjojeliibinaaGreatDoor
open Go
set_option linter.unusedVariables false
set_option linter.unusedSimpArgs false

section types
variable {P : Program} {T : TypeId} {w : World}
theorem run_sz {n : Nat} (h : szT P T = some n) : (sizeOf T).run P w = .ok n w := by
  unfold szT at h
  cases hi : P.info? T with
  | none => simp [hi] at h
  | some i => simp [hi] at h; simp [sizeOf, typeInfo, hi, h]
theorem run_rowT {b : Bool} (h : rowT P T = some b) : (isAgg T).run P w = .ok b w := by
  unfold rowT at h
  cases hu : P.underlying T with
  | none => simp [hu] at h
  | some d =>
    simp only [hu, Option.map_some, Option.some.injEq] at h
    unfold isAgg
    rw [Sem.run_bind, run_underlying hu w]
    subst h
    cases d <;> rfl
theorem run_zeroT {z : Value} (h : zeroT P T = some z) : (zeroValue T).run P w = .ok z w := by
  unfold zeroT at h
  cases hi : P.info? T with
  | none => simp [hi] at h
  | some i => simp [hi] at h; simp [zeroValue, typeInfo, hi, h]
theorem run_sliceT {e : TypeId} (h : sliceT P T = some e) : P.underlying T = some (.slice e) := by
  unfold sliceT at h
  cases hu : P.underlying T with
  | none => simp [hu] at h
  | some d => cases d <;> simp [hu] at h ⊢; exact h
theorem run_arrT {n e : Nat} (h : arrT P T = some (n, e)) : P.underlying T = some (.array n e) := by
  unfold arrT at h
  cases hu : P.underlying T with
  | none => simp [hu] at h
  | some d => cases d <;> simp [hu] at h ⊢; exact h
end types

/-! ### The judgements -/
def Gl (P : Program) (w0 : World) (F0 : Nat → Prop) (L : List Res) (ops : Array Oper) (Q : Exit → Act → World → Prop) (rest : List Oper) (n : Fm) (env : Env) : Prop :=
  ∀ w, St w0 F0 L w → wpListIn (FR n.ro) 0 P ops Q rest (fr n env) w
/-- What code asks for, in a frame like this one. -/
abbrev cwp (n : Fm) (P : Program) (c : Code) (Q : Exit → Act → World → Prop) : Act → World → Prop := c.wpIn (FR n.ro) 0 P Q
def Gc (P : Program) (w0 : World) (F0 : Nat → Prop) (L : List Res) (c : Code) (Q : Exit → Act → World → Prop) (n : Fm) (env : Env) : Prop :=
  ∀ w, St w0 F0 L w → c.wpIn (FR n.ro) 0 P Q (fr n env) w
def Gx (w0 : World) (F0 : Nat → Prop) (L : List Res) (Q : Exit → Act → World → Prop) (e : Exit) (n : Fm) (env : Env) : Prop :=
  ∀ w, St w0 F0 L w → Q e (fr n env) w
/-- The operation leaves v, and the world as it is. -/
def Runs (P : Program) (w0 : World) (F0 : Nat → Prop) (L : List Res) (n : Fm) (env : Env) (o : Oper) (v : Value) : Prop :=
  ∀ w, St w0 F0 L w → (execOp (ev n env) o).run P w = .ok (.value v) w

section code
variable {P : Program} {w0 : World} {F0 : Nat → Prop} {L : List Res} {Q Q' : Exit → Act → World → Prop} {n : Fm} {env : Env} {ops : Array Oper} {rest : List Oper}

theorem gc_seq {x y : Code} (h : Gc P w0 F0 L x (Exit.then (cwp n P y Q) Q) n env) : Gc P w0 F0 L (.seq x y) Q n env := fun w hw => wpIn_seq (h w hw)
theorem gc_region {id : Nat} {l : List Oper} (h : Gl P w0 F0 L l.toArray Q l n env) : Gc P w0 F0 L (.region id l.toArray false) Q n env := fun w hw => wpIn_region_lit (h w hw)
theorem gc_cond {c : Operand} {x y : Code} {b : Bool} (hc : ev n env c = .bool b) (ht : b = true → Gc P w0 F0 L x Q n env) (hf : b = false → Gc P w0 F0 L y Q n env) : Gc P w0 F0 L (.cond c x y) Q n env :=
  fun w hw => wpIn_cond_split (by rw [fr_eval]; exact hc) (fun h => ht h w hw) (fun h => hf h w hw)
theorem gc_block {id : Nat} {c : Code} (h : Gc P w0 F0 L c (Exit.inBlock id Q) n env) : Gc P w0 F0 L (.block id c) Q n env := fun w hw => wpIn_block (h w hw)
theorem gc_skip (h : Gx w0 F0 L Q .normal n env) : Gc P w0 F0 L .skip Q n env := fun w hw => wpIn_skip (h w hw)
theorem gc_exit {id : Nat} (h : Gx w0 F0 L Q (.exit id) n env) : Gc P w0 F0 L (.exit id) Q n env := fun w hw => wpIn_exit (h w hw)
theorem gc_ret (h : Gx w0 F0 L Q .ret n env) : Gc P w0 F0 L .ret Q n env := fun w hw => wpIn_ret (h w hw)
theorem gl_nil (h : Gx w0 F0 L Q .normal n env) : Gl P w0 F0 L ops Q [] n env := fun w hw => h w hw
theorem gx_then {y : Code} (h : Gc P w0 F0 L y Q n env) : Gx w0 F0 L (Exit.then (cwp n P y Q) Q') .normal n env := h
theorem gx_then_exit {K : Act → World → Prop} {id : Nat} (h : Gx w0 F0 L Q (.exit id) n env) : Gx w0 F0 L (Exit.then K Q) (.exit id) n env := h
theorem gx_then_ret {K : Act → World → Prop} (h : Gx w0 F0 L Q .ret n env) : Gx w0 F0 L (Exit.then K Q) .ret n env := h
theorem gx_block_ret {id : Nat} (h : Gx w0 F0 L Q .ret n env) : Gx w0 F0 L (Exit.inBlock id Q) .ret n env := h
theorem gx_block_normal {id : Nat} (h : Gx w0 F0 L Q .normal n env) : Gx w0 F0 L (Exit.inBlock id Q) .normal n env := h
theorem gx_block_hit {id : Nat} (h : Gx w0 F0 L Q .normal n env) : Gx w0 F0 L (Exit.inBlock id Q) (.exit id) n env := fun w hw => by
  simp only [Exit.inBlock, if_true]; exact h w hw
theorem gx_block_miss {id id' : Nat} (hne : Nat.beq id' id = false) (h : Gx w0 F0 L Q (.exit id') n env) : Gx w0 F0 L (Exit.inBlock id Q) (.exit id') n env := fun w hw => by
  have : ¬ id' = id := fun e => by subst e; simp at hne
  simp only [Exit.inBlock, if_neg this]; exact h w hw

theorem g_enter {f : FuncId} {fn : Func} {c : Code} {args : Array Value} {w : World} {F : Nat → Prop} {R : Ending → World → Prop} (hf : P.funcs[f]? = some fn) (hb : fn.body = some c)
    (hs : stars L w F) {nt : Nat} (hnt : fn.ntmps = nt) (hn : Nat.ble args.size nt = true) (henv : enumE 0 args.toList = env) (h : Gc P w F L c (bodyPost P fn R) ⟨nt, [], none⟩ env) : Calls P f args w R :=
  calls_of_wp hf hb (by subst hnt; subst henv; rw [fr_init _ _ (by exact Nat.le_of_ble_eq_true hn)]; exact wpIn_wide.1 (h w (St.init hs)))

theorem gx_end {fn : Func} {R : Ending → World → Prop} {v : Value} (h : ∀ w, St w0 F0 L w → (results fn (fr n env).tmps).run P w = .ok v w)
    (hR : ∀ w, St w0 F0 L w → R (.returned v) w) (hd : n.ds = [] := by rfl) : Gx w0 F0 L (bodyPost P fn R) .ret n env := fun w hw => ⟨hd, v, h w hw, hR w hw⟩
theorem gx_end' {fn : Func} {R : Ending → World → Prop} {v : Value} (h : ∀ w, St w0 F0 L w → (results fn (fr n env).tmps).run P w = .ok v w)
    (hR : ∀ w, St w0 F0 L w → R (.returned v) w) (hd : n.ds = [] := by rfl) : Gx w0 F0 L (bodyPost P fn R) .normal n env := fun w hw => ⟨hd, v, h w hw, hR w hw⟩
theorem gx_ret0 {fn : Func} {R : Ending → World → Prop} (hr : fn.results = #[]) (hR : ∀ w, St w0 F0 L w → R (.returned (.tuple #[])) w) (hd : n.ds = [] := by rfl) : Gx w0 F0 L (bodyPost P fn R) .ret n env :=
  gx_end (fun w _ => results_none hr _ _ _) hR hd
theorem gx_ret0' {fn : Func} {R : Ending → World → Prop} (hr : fn.results = #[]) (hR : ∀ w, St w0 F0 L w → R (.returned (.tuple #[])) w) (hd : n.ds = [] := by rfl) : Gx w0 F0 L (bodyPost P fn R) .normal n env :=
  gx_end' (fun w _ => results_none hr _ _ _) hR hd
theorem fr_tmp {t : Nat} {v : Value} (hv : ev n env (.tmp t) = v) : (fr n env).tmps.getD t undef = v := by rw [← hv, ← fr_eval]; rfl
theorem fr_tmp' {t : Nat} {v : Value} (hv : ev n env (.tmp t) = v) : ((fr n env).tmps[t]?).getD undef = v := by
  have := fr_tmp hv
  rwa [Array.getD_eq_getD_getElem?] at this
theorem gx_ret1 {fn : Func} {R : Ending → World → Prop} {t : Tmp} {v : Value} (hr : fn.results = #[.tmp t]) (hv : ev n env (.tmp t) = v) (hR : ∀ w, St w0 F0 L w → R (.returned v) w) (hd : n.ds = [] := by rfl) : Gx w0 F0 L (bodyPost P fn R) .ret n env :=
  gx_end (fun w _ => by rw [results_tmp hr, fr_tmp hv]) hR hd
theorem gx_ret2 {fn : Func} {R : Ending → World → Prop} {t u : Tmp} {v x : Value} (hr : fn.results = #[.tmp t, .tmp u]) (hv : ev n env (.tmp t) = v) (hx : ev n env (.tmp u) = x)
    (hR : ∀ w, St w0 F0 L w → R (.returned (.tuple #[v, x])) w) (hd : n.ds = [] := by rfl) : Gx w0 F0 L (bodyPost P fn R) .ret n env :=
  gx_end (fun w _ => by rw [results_tmp2 hr, fr_tmp hv, fr_tmp hx]) hR hd
/-- A result that lies in a variable of its own. -/
theorem gx_retc {fn : Func} {R : Ending → World → Prop} {t : Tmp} {T : TypeId} {a : Addr} {v : Value} (hr : fn.results = #[.cell t T]) (ht : ev n env (.tmp t) = .pointer (some a))
    (hl : ∀ w, St w0 F0 L w → (loadVar T a).run P w = .ok v w) (hR : ∀ w, St w0 F0 L w → R (.returned v) w) (hd : n.ds = [] := by rfl) : Gx w0 F0 L (bodyPost P fn R) .ret n env :=
  gx_end (fun w hw => by simp [results, hr, fr_tmp' ht, asAddr, hl w hw]) hR hd
theorem gx_retct {fn : Func} {R : Ending → World → Prop} {t u : Tmp} {T : TypeId} {a : Addr} {v x : Value} (hr : fn.results = #[.cell t T, .tmp u]) (ht : ev n env (.tmp t) = .pointer (some a)) (hx : ev n env (.tmp u) = x)
    (hl : ∀ w, St w0 F0 L w → (loadVar T a).run P w = .ok v w) (hR : ∀ w, St w0 F0 L w → R (.returned (.tuple #[v, x])) w) (hd : n.ds = [] := by rfl) : Gx w0 F0 L (bodyPost P fn R) .ret n env :=
  gx_end (fun w hw => by simp [results, hr, fr_tmp' ht, fr_tmp' hx, asAddr, hl w hw]) hR hd
/-! ### One operation -/
/-- The operation is carried out (its guard, if it has one, says so). -/
def Wt (ops : Array Oper) (n : Fm) (env : Env) (o : Oper) (b : Bool) : Prop := Region.wanted o (yielded ops (fr n env).tmps) = b
theorem wt0 {o : Oper} (h : o.guard = none) : Wt ops n env o true := by simp [Wt, Region.wanted, h]
theorem fr_get? {t : Nat} {v : Value} (ht : Nat.blt t n.nt = true) (hv : Env.get env t = v) : (fr n env).tmps[t]? = some v := by
  rw [Nat.blt_eq] at ht
  simp [fr, Array.getElem?_ofFn, ht, hv]
theorem wtg {o : Oper} {j d : Nat} {b c : Bool} (h : o.guard = some (j, b)) (hd : (ops[j]?).bind (·.dst) = some d) (ht : Nat.blt d n.nt = true) (hv : Env.get env d = .bool c) : Wt ops n env o (c == b) := by
  simp [Wt, Region.wanted, h, yielded, hd, fr_get? ht hv]

theorem gl_pure0 {o : Oper} {v : Value} (hw : Wt ops n env o true) (h : Runs P w0 F0 L n env o v) (k : Gl P w0 F0 L ops Q rest n (pu o.dst v env)) : Gl P w0 F0 L ops Q (o :: rest) n env := by
  intro w hs
  unfold wpListIn
  rw [if_pos (show Region.wanted o _ = true from hw)]
  exact Oper.wpIn_value (by rw [fr_eval]; exact h w hs) (by rw [fr_put]; exact k w hs)
theorem gl_pure {d : Tmp} {op : Op} {ty : TypeId} {pos : String} {af : Array Edge} {gd : Option (Nat × Bool)} {v : Value} (hw : Wt ops n env ⟨some d, op, ty, pos, af, gd⟩ true) (h : Runs P w0 F0 L n env ⟨some d, op, ty, pos, af, gd⟩ v)
    (k : Gl P w0 F0 L ops Q rest n ((d, v) :: env)) : Gl P w0 F0 L ops Q (⟨some d, op, ty, pos, af, gd⟩ :: rest) n env := gl_pure0 hw h k
theorem gl_passD {d : Tmp} {op : Op} {ty : TypeId} {pos : String} {af : Array Edge} {gd : Option (Nat × Bool)} (hw : Wt ops n env ⟨some d, op, ty, pos, af, gd⟩ false)
    (k : Gl P w0 F0 L ops Q rest n ((d, undef) :: env)) : Gl P w0 F0 L ops Q (⟨some d, op, ty, pos, af, gd⟩ :: rest) n env := by
  intro w hs
  unfold wpListIn
  rw [if_neg (by rw [show Region.wanted _ _ = false from hw]; simp), fr_put]
  exact ⟨fun _ _ => trivial, k w hs⟩
/-- An operation that leaves v and turns the world. -/
theorem gl_eff {o : Oper} {L' : List Res} {v : Value} (hw : Wt ops n env o true) (h : ∀ w, St w0 F0 L w → ∃ w', (execOp (ev n env) o).run P w = .ok (.value v) w' ∧ St w0 F0 L' w')
    (k : Gl P w0 F0 L' ops Q rest n (pu o.dst v env)) : Gl P w0 F0 L ops Q (o :: rest) n env := by
  intro w hs
  obtain ⟨w', hr, hs'⟩ := h w hs
  unfold wpListIn
  rw [if_pos (show Region.wanted o _ = true from hw)]
  exact Oper.wpIn_value (by rw [fr_eval]; exact hr) (by rw [fr_put]; exact k w' hs')
/-- The same, where what it leaves is known of but not named. -/
theorem gl_effx {o : Oper} {α : Type} {L' : α → List Res} {v : α → Value} (hw : Wt ops n env o true) (h : ∀ w, St w0 F0 L w → ∃ x w', (execOp (ev n env) o).run P w = .ok (.value (v x)) w' ∧ St w0 F0 (L' x) w')
    (k : ∀ x, Gl P w0 F0 (L' x) ops Q rest n (pu o.dst (v x) env)) : Gl P w0 F0 L ops Q (o :: rest) n env := by
  intro w hs
  obtain ⟨x, w', hr, hs'⟩ := h w hs
  unfold wpListIn
  rw [if_pos (show Region.wanted o _ = true from hw)]
  exact Oper.wpIn_value (by rw [fr_eval]; exact hr) (by rw [fr_put]; exact k x w' hs')
theorem gl_skip {o : Oper} {L' : List Res} (hw : Wt ops n env o true) (h : ∀ w, St w0 F0 L w → ∃ w', (execOp (ev n env) o).run P w = .ok .skip w' ∧ St w0 F0 L' w')
    (k : Gl P w0 F0 L' ops Q rest n (pu o.dst undef env)) : Gl P w0 F0 L ops Q (o :: rest) n env := by
  intro w hs
  obtain ⟨w', hr, hs'⟩ := h w hs
  unfold wpListIn
  rw [if_pos (show Region.wanted o _ = true from hw)]
  exact Oper.wpIn_skip (by rw [fr_eval]; exact hr) (by rw [fr_put]; exact k w' hs')
/-- A call: the callee owns M of L. -/
def Post {α : Type} (w : World) (F : Nat → Prop) (V : α → Value) (N : α → List Res) : Ending → World → Prop := fun e w' => ∃ x, e = .returned (V x) ∧ St w F (N x) w'
theorem gl_call0 {o : Oper} {L' M : List Res} {α : Type} {V : α → Value} {N : α → List Res} {f : FuncId} {args : Array Value} (hw : Wt ops n env o true)
    (he : ∀ w, (execOp (ev n env) o).run P w = .ok (.enter f args) w) (hsel : Sel L M L')
    (hc : ∀ w F1 F2, stars M w F1 → stars L' w F2 → (∀ k, F1 k → ¬ F2 k) → Stp w0 F0 w (fun k => F1 k ∨ F2 k) → Calls P f args w (Post w F1 V N))
    (k : ∀ x, Gl P w0 F0 (N x ++ L') ops Q rest n (pu o.dst (V x) env)) : Gl P w0 F0 L ops Q (o :: rest) n env := by
  intro w hs
  obtain ⟨F, hF, hst⟩ := hs
  obtain ⟨F1, F2, h1, h2, hE, hd⟩ := hsel.split hF
  have hst' : Stp w0 F0 w (fun k => F1 k ∨ F2 k) := by rw [← fp_eq hE]; exact hst
  unfold wpListIn
  rw [if_pos (show Region.wanted o _ = true from hw)]
  refine Oper.wpIn_enter (by rw [fr_eval]; exact he w) ((hc w F1 F2 h1 h2 hd hst').mono ?_)
  rintro e w' ⟨x, rfl, hx⟩
  exact ⟨V x, rfl, by rw [fr_put]; exact k x w' (St.call hst h2 hE hd hx)⟩

theorem gl_call {d : Tmp} {op : Op} {ty : TypeId} {pos : String} {af : Array Edge} {gd : Option (Nat × Bool)} {L' M : List Res} {α : Type} {V : α → Value} {N : α → List Res} {f : FuncId} {args : Array Value} (hw : Wt ops n env ⟨some d, op, ty, pos, af, gd⟩ true)
    (he : ∀ w, (execOp (ev n env) ⟨some d, op, ty, pos, af, gd⟩).run P w = .ok (.enter f args) w) (hsel : Sel L M L')
    (hc : ∀ w F1 F2, stars M w F1 → stars L' w F2 → (∀ k, F1 k → ¬ F2 k) → Stp w0 F0 w (fun k => F1 k ∨ F2 k) → Calls P f args w (Post w F1 V N))
    (k : ∀ x, Gl P w0 F0 (N x ++ L') ops Q rest n ((d, V x) :: env)) : Gl P w0 F0 L ops Q (⟨some d, op, ty, pos, af, gd⟩ :: rest) n env := gl_call0 hw he hsel hc k

/-! ### Facts and resources between the operations -/
theorem gl_conv {L' M N : List Res} (hs : Sel L M L') (hc : ∀ w F, stars M w F → stars N w F) (k : Gl P w0 F0 (N ++ L') ops Q rest n env) : Gl P w0 F0 L ops Q rest n env := fun w hw => k w (hw.conv hs hc)
theorem gl_pureR {p : Prop} (k : p → Gl P w0 F0 L ops Q rest n env) : Gl P w0 F0 (pureR p :: L) ops Q rest n env := fun w ⟨F, hF, hst⟩ => k (stars_pure hF).1 w ⟨F, (stars_pure hF).2, hst⟩
/-- A fact that the state shows. -/
theorem gl_fact {p : Prop} (h : ∀ w, St w0 F0 L w → p) (k : p → Gl P w0 F0 L ops Q rest n env) : Gl P w0 F0 L ops Q rest n env := fun w hw => k (h w hw) w hw
theorem gc_conv {c : Code} {L' M N : List Res} (hs : Sel L M L') (hc : ∀ w F, stars M w F → stars N w F) (k : Gc P w0 F0 (N ++ L') c Q n env) : Gc P w0 F0 L c Q n env := fun w hw => k w (hw.conv hs hc)
theorem gc_pureR {c : Code} {p : Prop} (k : p → Gc P w0 F0 L c Q n env) : Gc P w0 F0 (pureR p :: L) c Q n env := fun w ⟨F, hF, hst⟩ => k (stars_pure hF).1 w ⟨F, (stars_pure hF).2, hst⟩
theorem gc_exR {c : Code} {α : Type} {f : α → Res} (k : ∀ x, Gc P w0 F0 (f x :: L) c Q n env) : Gc P w0 F0 (exR f :: L) c Q n env := fun w ⟨F, hF, hst⟩ => by
  obtain ⟨x, hx⟩ := stars_ex hF
  exact k x w ⟨F, hx, hst⟩
theorem gc_fact {c : Code} {p : Prop} (h : ∀ w, St w0 F0 L w → p) (k : p → Gc P w0 F0 L c Q n env) : Gc P w0 F0 L c Q n env := fun w hw => k (h w hw) w hw
end code
end Go.Proofs.YtobjojeliibinaaGreatDoor

/- The engine, part C: the rules of the operations: numbers, copies, memory of one's own. -/
namespace Go.Proofs.YtobjojeliibinaaGreatDoor
open Go
set_option linter.unusedVariables false
set_option linter.unusedSimpArgs false

section ops
variable {P : Program} {w0 : World} {F0 : Nat → Prop} {L : List Res} {Q : Exit → Act → World → Prop} {n : Fm} {env : Env} {ops : Array Oper} {rest : List Oper}
variable {d : Option Tmp} {ty : TypeId} {pos : String} {af : Array Edge} {gd : Option (Nat × Bool)}

/-! ### Copies and numbers -/
theorem r_move {x : Operand} {v : Value} (hx : ev n env x = v) : Runs P w0 F0 L n env ⟨d, .move x, ty, pos, af, gd⟩ v := fun w _ => by simp [execOp, hx]
theorem r_assign {x : Operand} {v : Value} (hx : ev n env x = v) : Runs P w0 F0 L n env ⟨d, .assign x, ty, pos, af, gd⟩ v := fun w _ => by simp [execOp, hx]
theorem r_pick {c x y : Operand} {b : Bool} {v : Value} (hc : ev n env c = .bool b) (hv : (bif b then ev n env x else ev n env y) = v) : Runs P w0 F0 L n env ⟨d, .pick c x y, ty, pos, af, gd⟩ v := fun w _ => by
  cases b <;> simp at hv <;> simp [execOp, hc, hv, asBool]
theorem r_nilCheck {x : Operand} {a : Addr} (hx : ev n env x = .pointer (some a)) : Runs P w0 F0 L n env ⟨d, .nilCheck x, ty, pos, af, gd⟩ (.pointer (some a)) := fun w _ => by simp [execOp, hx]
theorem r_not {x : Operand} {T : TypeId} {b : Bool} (hx : ev n env x = .bool b) : Runs P w0 F0 L n env ⟨d, .unOp .not T x, ty, pos, af, gd⟩ (.bool (!b)) := fun w _ => by simp [execOp, hx, Op.unary]
theorem r_extract {x : Operand} {i : Nat} {vs : Array Value} {v : Value} (hx : ev n env x = .tuple vs) (hv : vs[i]? = some v) : Runs P w0 F0 L n env ⟨d, .extract x i, ty, pos, af, gd⟩ v := fun w _ => by
  simp [execOp, hx, Instr.extract, hv]
theorem r_bin {op : BinOp} {T T' : TypeId} {x y : Operand} {k : IntKind} {i j : Int} {v : Value} (hop : (match op with | .shl | .shr | .eql | .neq => false | _ => true) = true)
    (hx : ev n env x = .int k i) (hy : ev n env y = .int k j) (hr : ∀ w : World, (match op with
      | .add | .sub | .mul => Op.intArith op k i j
      | .quo | .rem => Op.intDiv op k i j
      | .and | .or | .xor | .andNot => Op.intBits op k i j
      | _ => Op.intCmp op i j).run P w = .ok v w) : Runs P w0 F0 L n env ⟨d, .binOp op T x y T', ty, pos, af, gd⟩ v := fun w _ => by
  have := hr w
  cases op <;> simp at hop <;> simp [execOp, hx, hy, eqGuard, binOp] at * <;> rw [this] <;> rfl
theorem r_add {T T' : TypeId} {x y : Operand} {k : IntKind} {i j : Int} (hx : ev n env x = .int k i) (hy : ev n env y = .int k j) : Runs P w0 F0 L n env ⟨d, .binOp .add T x y T', ty, pos, af, gd⟩ (.int k (k.wrap (i + j))) := r_bin rfl hx hy fun _ => rfl
theorem r_sub {T T' : TypeId} {x y : Operand} {k : IntKind} {i j : Int} (hx : ev n env x = .int k i) (hy : ev n env y = .int k j) : Runs P w0 F0 L n env ⟨d, .binOp .sub T x y T', ty, pos, af, gd⟩ (.int k (k.wrap (i - j))) := r_bin rfl hx hy fun _ => rfl
theorem r_mul {T T' : TypeId} {x y : Operand} {k : IntKind} {i j : Int} (hx : ev n env x = .int k i) (hy : ev n env y = .int k j) : Runs P w0 F0 L n env ⟨d, .binOp .mul T x y T', ty, pos, af, gd⟩ (.int k (k.wrap (i * j))) := r_bin rfl hx hy fun _ => rfl
theorem r_arith {op : BinOp} {T T' : TypeId} {x y : Operand} {k : IntKind} {i j m : Int} (hx : ev n env x = .int k i) (hy : ev n env y = .int k j)
    (h : (match op with | .add => k.wrap (i + j) = m | .sub => k.wrap (i - j) = m | .mul => k.wrap (i * j) = m | _ => False)) : Runs P w0 F0 L n env ⟨d, .binOp op T x y T', ty, pos, af, gd⟩ (.int k m) := by
  cases op <;> simp at h <;> subst h
  · exact r_add hx hy
  · exact r_sub hx hy
  · exact r_mul hx hy
theorem r_quo {T T' : TypeId} {x y : Operand} {k : IntKind} {i j : Int} (hx : ev n env x = .int k i) (hy : ev n env y = .int k j) (hj : j ≠ 0) : Runs P w0 F0 L n env ⟨d, .binOp .quo T x y T', ty, pos, af, gd⟩ (.int k (k.wrap (i.tdiv j))) :=
  r_bin rfl hx hy fun _ => by simp [Op.intDiv, hj]
theorem r_rem {T T' : TypeId} {x y : Operand} {k : IntKind} {i j : Int} (hx : ev n env x = .int k i) (hy : ev n env y = .int k j) (hj : j ≠ 0) : Runs P w0 F0 L n env ⟨d, .binOp .rem T x y T', ty, pos, af, gd⟩ (.int k (i.tmod j)) :=
  r_bin rfl hx hy fun _ => by simp [Op.intDiv, hj]
def bitop (op : BinOp) (k : IntKind) (i j : Int) : Int := match op with
  | .and => k.wrap (BitVec.ofInt k.bits i &&& BitVec.ofInt k.bits j).toNat
  | .or => k.wrap (BitVec.ofInt k.bits i ||| BitVec.ofInt k.bits j).toNat
  | .xor => k.wrap (BitVec.ofInt k.bits i ^^^ BitVec.ofInt k.bits j).toNat
  | _ => k.wrap (BitVec.ofInt k.bits i &&& ~~~ BitVec.ofInt k.bits j).toNat
theorem r_bits {op : BinOp} {T T' : TypeId} {x y : Operand} {k : IntKind} {i j : Int} (hop : (match op with | .and | .or | .xor | .andNot => true | _ => false) = true)
    (hx : ev n env x = .int k i) (hy : ev n env y = .int k j) : Runs P w0 F0 L n env ⟨d, .binOp op T x y T', ty, pos, af, gd⟩ (.int k (bitop op k i j)) := by
  cases op <;> simp at hop <;> exact r_bin rfl hx hy fun _ => rfl
theorem r_lss {T T' : TypeId} {x y : Operand} {k : IntKind} {i j : Int} (hx : ev n env x = .int k i) (hy : ev n env y = .int k j) : Runs P w0 F0 L n env ⟨d, .binOp .lss T x y T', ty, pos, af, gd⟩ (.bool (decide (i < j))) := r_bin rfl hx hy fun _ => rfl
theorem r_leq {T T' : TypeId} {x y : Operand} {k : IntKind} {i j : Int} (hx : ev n env x = .int k i) (hy : ev n env y = .int k j) : Runs P w0 F0 L n env ⟨d, .binOp .leq T x y T', ty, pos, af, gd⟩ (.bool (decide (i ≤ j))) := r_bin rfl hx hy fun _ => rfl
theorem r_gtr {T T' : TypeId} {x y : Operand} {k : IntKind} {i j : Int} (hx : ev n env x = .int k i) (hy : ev n env y = .int k j) : Runs P w0 F0 L n env ⟨d, .binOp .gtr T x y T', ty, pos, af, gd⟩ (.bool (decide (j < i))) := r_bin rfl hx hy fun _ => rfl
theorem r_geq {T T' : TypeId} {x y : Operand} {k : IntKind} {i j : Int} (hx : ev n env x = .int k i) (hy : ev n env y = .int k j) : Runs P w0 F0 L n env ⟨d, .binOp .geq T x y T', ty, pos, af, gd⟩ (.bool (decide (j ≤ i))) := r_bin rfl hx hy fun _ => rfl
theorem r_eql_int {T T' : TypeId} {x y : Operand} {k : IntKind} {i j : Int} (hx : ev n env x = .int k i) (hy : ev n env y = .int k j) : Runs P w0 F0 L n env ⟨d, .binOp .eql T x y T', ty, pos, af, gd⟩ (.bool (decide (i = j))) := fun w _ => by
  simp [execOp, hx, hy, eqGuard, binOp, Op.intCmp]; rfl
theorem r_neq_int {T T' : TypeId} {x y : Operand} {k : IntKind} {i j : Int} (hx : ev n env x = .int k i) (hy : ev n env y = .int k j) : Runs P w0 F0 L n env ⟨d, .binOp .neq T x y T', ty, pos, af, gd⟩ (.bool (!decide (i = j))) := fun w _ => by
  simp [execOp, hx, hy, eqGuard, binOp, Op.intCmp, bne]; rfl
theorem r_shl {T T' : TypeId} {x y : Operand} {k k' : IntKind} {i j : Int} (hx : ev n env x = .int k i) (hy : ev n env y = .int k' j) (hj : 0 ≤ j) :
    Runs P w0 F0 L n env ⟨d, .binOp .shl T x y T', ty, pos, af, gd⟩ (.int k (k.wrap (i * 2 ^ (min j.toNat k.bits)))) := fun w _ => by
  simp [execOp, hx, hy, eqGuard, binOp, Op.shift, Int.not_lt.2 hj]
theorem r_shr {T T' : TypeId} {x y : Operand} {k k' : IntKind} {i j : Int} (hx : ev n env x = .int k i) (hy : ev n env y = .int k' j) (hj : 0 ≤ j) :
    Runs P w0 F0 L n env ⟨d, .binOp .shr T x y T', ty, pos, af, gd⟩ (.int k (i.fdiv (2 ^ (min j.toNat k.bits)))) := fun w _ => by
  simp [execOp, hx, hy, eqGuard, binOp, Op.shift, Int.not_lt.2 hj]
theorem r_conv_int {S T : TypeId} {x : Operand} {k k' : IntKind} {i : Int} {ds : TypeDesc} (hx : ev n env x = .int k i) (hs : P.underlying S = some ds) (ht : P.underlying T = some (.int k')) :
    Runs P w0 F0 L n env ⟨d, .convert S T x, ty, pos, af, gd⟩ (.int k' (k'.wrap i)) := fun w _ => by
  simp only [execOp, hx, convert, Sem.run_bind, run_underlying hs, run_underlying ht, Result.andThen_ok]
  cases ds <;> simp [Conv.intToInt]
theorem r_len_slice {x : Operand} {T e : TypeId} {a : Option Addr} {m c : Nat} (hx : ev n env x = .slice a m c) (ht : sliceT P T = some e) :
    Runs P w0 F0 L n env ⟨d, .call ⟨.builtin .len, #[x], #[T]⟩, ty, pos, af, gd⟩ (.int .i64 m) := fun w _ => by
  simp [execOp, resolve, invoke, builtin, Builtin.len_, hx, run_underlying (run_sliceT ht), goInt]
/-! ### Places -/
theorem r_fieldAddr {x : Operand} {s f : Nat} {g o k : Nat} (hx : ev n env x = .pointer (some ⟨g, o, none⟩)) (hf : foff P s f = some k) :
    Runs P w0 F0 L n env ⟨d, .fieldAddr s x f, ty, pos, af, gd⟩ (.pointer (some ⟨g, o + k, none⟩)) := fun w _ => by
  unfold foff at hf
  cases hu : P.underlying s with
  | none => simp [hu] at hf
  | some dsc =>
    cases dsc <;> simp [hu] at hf
    rename_i fs
    cases hfl : fs[f]? with
    | none => simp [hfl] at hf
    | some x' =>
      simp only [hfl, Option.bind_some] at hf
      cases hi : P.info? x'.type with
      | none => simp [hi] at hf
      | some i =>
        simp [hi] at hf
        obtain ⟨h0, hk⟩ := hf
        have hz : (sizeOf x'.type).run P w = .ok i.size w := run_sz (by simp [szT, hi])
        simp only [execOp, hx, Instr.fieldAt, Sem.run_bind, run_underlying hu, Result.andThen_ok, hfl, Instr.sureAddr, Sem.run_pure, fieldPlace, hz, h0, if_false, hk]
        simp [Addr.add_mid]
theorem r_indexAddr_slice {x y : Operand} {T e : TypeId} {g o m c s : Nat} {k : IntKind} {i : Int} (hx : ev n env x = .slice (some ⟨g, o, none⟩) m c) (hy : ev n env y = .int k i) (ht : sliceT P T = some e) (hs : szT P e = some s)
    (h0 : 0 ≤ i) (hm : i < m) : Runs P w0 F0 L n env ⟨d, .indexAddr T x y, ty, pos, af, gd⟩ (.pointer (some ⟨g, o + i.toNat * s, none⟩)) := fun w _ => by
  simp only [execOp, hx, hy, Instr.indexAt, asIntOf, Sem.run_bind, Sem.run_pure, Result.andThen_ok, run_underlying (run_sliceT ht)]
  simp [h0, hm, run_sz hs, Addr.add_mid]
theorem r_indexAddr_arr {x y : Operand} {T e : TypeId} {g o m s : Nat} {k : IntKind} {i : Int} (hx : ev n env x = .pointer (some ⟨g, o, none⟩)) (hy : ev n env y = .int k i) (ht : arrT P T = some (m, e)) (hs : szT P e = some s)
    (h0 : 0 ≤ i) (hm : i < m) : Runs P w0 F0 L n env ⟨d, .indexAddr T x y, ty, pos, af, gd⟩ (.pointer (some ⟨g, o + i.toNat * s, none⟩)) := fun w _ => by
  simp only [execOp, hx, hy, Instr.indexAt, asIntOf, Sem.run_bind, Sem.run_pure, Result.andThen_ok, run_underlying (run_arrT ht), Instr.sureAddr]
  simp [h0, hm, run_sz hs, Addr.add_mid]
/-- xs[lo:hi] of a slice. -/
theorem r_slice_slice {x : Operand} {T e : TypeId} {lo hi : Option Operand} {a : Option Addr} {m c s l h : Nat} (hx : ev n env x = .slice a m c) (ht : sliceT P T = some e) (hs : szT P e = some s)
    (hlo : (match lo with | none => l = 0 | some y => ∃ k, ev n env y = .int k l)) (hhi : (match hi with | none => h = m | some y => ∃ k, ev n env y = .int k h)) (h1 : l ≤ h) (h2 : h ≤ c) :
    Runs P w0 F0 L n env ⟨d, .slice T x lo hi none, ty, pos, af, gd⟩ (.slice (if c = l then a else a.map (·.add (l * s))) (h - l) (c - l)) := fun w _ => by
  have e1 : (Instr.sliceBounds true m c (lo.map (ev n env)) (hi.map (ev n env)) none).run P w = .ok (l, h, c) w := by
    unfold Instr.sliceBounds
    cases hi with
    | none =>
      simp only at hhi; subst hhi
      cases lo with
      | none => simp only at hlo; subst hlo; simp
      | some y =>
        obtain ⟨k, hk⟩ := hlo
        have : (0:Int) ≤ l ∧ (l:Int) ≤ h := ⟨by omega, by omega⟩
        simp [hk, Instr.sliceBound, asIntOf, h1, Nat.not_lt.2 h1]
    | some z =>
      obtain ⟨k', hk'⟩ := hhi
      have hc : (0:Int) ≤ h ∧ (h:Int) ≤ c := ⟨by omega, by omega⟩
      cases lo with
      | none => simp only at hlo; subst hlo; simp [hk', Instr.sliceBound, asIntOf, h2, Nat.not_lt.2 h2]
      | some y =>
        obtain ⟨k, hk⟩ := hlo
        have : (0:Int) ≤ l ∧ (l:Int) ≤ h := ⟨by omega, by omega⟩
        simp [hk, hk', Instr.sliceBound, asIntOf, h1, h2, Nat.not_lt.2 h1, Nat.not_lt.2 h2]
  simp [execOp, hx, Instr.sliceAt, run_underlying (run_sliceT ht), Instr.slice, e1, run_sz hs]
/-- A whole array by its address: arr[:]. -/
theorem r_slice_arr {x : Operand} {T e : TypeId} {lo hi : Option Operand} {g o m s l h : Nat} (hx : ev n env x = .pointer (some ⟨g, o, none⟩)) (ht : arrT P T = some (m, e)) (hs : szT P e = some s)
    (hlo : (match lo with | none => l = 0 | some y => ∃ k, ev n env y = .int k l)) (hhi : (match hi with | none => h = m | some y => ∃ k, ev n env y = .int k h)) (h1 : l ≤ h) (h2 : h ≤ m) (h3 : l < m) :
    Runs P w0 F0 L n env ⟨d, .slice T x lo hi none, ty, pos, af, gd⟩ (.slice (some ⟨g, o + l * s, none⟩) (h - l) (m - l)) := fun w _ => by
  have e1 : (Instr.sliceBounds false m m (lo.map (ev n env)) (hi.map (ev n env)) none).run P w = .ok (l, h, m) w := by
    unfold Instr.sliceBounds
    cases hi with
    | none =>
      simp only at hhi; subst hhi
      cases lo with
      | none => simp only at hlo; subst hlo; simp
      | some y =>
        obtain ⟨k, hk⟩ := hlo
        have : (0:Int) ≤ l ∧ (l:Int) ≤ h := ⟨by omega, by omega⟩
        simp [hk, Instr.sliceBound, asIntOf, h1, Nat.not_lt.2 h1]
    | some z =>
      obtain ⟨k', hk'⟩ := hhi
      have hc : (0:Int) ≤ h ∧ (h:Int) ≤ m := ⟨by omega, by omega⟩
      cases lo with
      | none => simp only at hlo; subst hlo; simp [hk', Instr.sliceBound, asIntOf, h2, Nat.not_lt.2 h2]
      | some y =>
        obtain ⟨k, hk⟩ := hlo
        have : (0:Int) ≤ l ∧ (l:Int) ≤ h := ⟨by omega, by omega⟩
        simp [hk, hk', Instr.sliceBound, asIntOf, h1, h2, Nat.not_lt.2 h1, Nat.not_lt.2 h2]
  have hml : ¬ m = l := by omega
  simp [execOp, hx, Instr.sliceAt, run_underlying (run_arrT ht), Instr.sureAddr, e1, run_sz hs, hml, Addr.add_mid]
theorem r_toArr {x : Operand} {T e : TypeId} {a : Option Addr} {m len c : Nat} (hx : ev n env x = .slice a len c) (ht : arrT P T = some (m, e)) (hm : m ≤ len) :
    Runs P w0 F0 L n env ⟨d, .sliceToArrayPointer T x, ty, pos, af, gd⟩ (.pointer a) := fun w _ => by
  simp [execOp, hx, Instr.arrayAt, run_underlying (run_arrT ht), Nat.not_lt.2 hm]

/-! ### Loads -/
theorem r_load {x : Operand} {T : TypeId} {a : Addr} {v : Value} (hx : ev n env x = .pointer (some a)) (h : ∀ w, St w0 F0 L w → (loadVar T a).run P w = .ok v w) :
    Runs P w0 F0 L n env ⟨d, .load T x, ty, pos, af, gd⟩ v := fun w hs => by
  simp [execOp, hx, Instr.loadAt, Instr.sureAddr, h w hs]

theorem cell_blk {w : World} {F : Nat → Prop} {g T : Nat} {cs : List Value} (h : (blk g T cs).on w F) (i : Nat) : w.cell? ⟨g, i, none⟩ = cs[i]? := by
  obtain ⟨_, fz, hg, _⟩ := h
  simp [World.cell?, hg]
theorem St.cellOf {w : World} {g T : Nat} {cs : List Value} {L' : List Res} (hs : St w0 F0 L w) (hp : Pick L (blk g T cs) L') (i : Nat) : w.cell? ⟨g, i, none⟩ = cs[i]? := by
  obtain ⟨F, hF, _⟩ := hs
  obtain ⟨F1, h1, _⟩ := stars_pick hp hF
  exact cell_blk h1 i
theorem run_loadVar_one {w : World} {T : TypeId} {a : Addr} {v : Value} (hr : rowT P T = some false) (hc : w.cell? a = some v) : (loadVar T a).run P w = .ok v w := by
  simp [loadVar, run_rowT hr, run_load, hc]
theorem run_loadVar_agg {w : World} {T : TypeId} {g o m : Nat} {seg : List Value} (hr : rowT P T = some true) (hs : szT P T = some m) (hl : seg.length = m) (hc : w.rangeAt g o seg) :
    (loadVar T ⟨g, o, none⟩).run P w = .ok (.agg seg.toArray) w := by
  have hl' : (loadCells ⟨g, o, none⟩ m).run P w = .ok seg.toArray w := by
    rw [← hl]; exact run_loadCells_list (P := P) w ⟨g, o, none⟩ seg (fun j v hv => by rw [Addr.add_mid]; exact hc j v hv)
  simp [loadVar, run_rowT hr, run_sz hs, hl']
theorem r_ld1 {x : Operand} {T g o T' : Nat} {cs : List Value} {L' : List Res} {v : Value} (hx : ev n env x = .pointer (some ⟨g, o, none⟩)) (hr : rowT P T = some false) (hp : Pick L (blk g T' cs) L') (hv : cs[o]? = some v) :
    Runs P w0 F0 L n env ⟨d, .load T x, ty, pos, af, gd⟩ v := r_load hx fun w hs => run_loadVar_one hr ((hs.cellOf hp o).trans hv)
theorem r_ldN {x : Operand} {T g o T' m : Nat} {cs seg : List Value} {L' : List Res} (hx : ev n env x = .pointer (some ⟨g, o, none⟩)) (hr : rowT P T = some true) (hs : szT P T = some m) (hp : Pick L (blk g T' cs) L')
    (hg : (cs.drop o).take m = seg) (hl : seg.length = m) : Runs P w0 F0 L n env ⟨d, .load T x, ty, pos, af, gd⟩ (.agg seg.toArray) :=
  r_load hx fun w hst => run_loadVar_agg hr hs hl fun j v hj => by
    rw [hst.cellOf hp, ← hj, ← hg, List.getElem?_take, List.getElem?_drop]
    rw [if_pos]
    rw [← hl]
    exact (List.getElem?_eq_some_iff.1 hj).1
/-- Of memory that was there at the start and isn't owned. -/
theorem r_ld1o {x : Operand} {T : Nat} {a : Addr} {v : Value} (hx : ev n env x = .pointer (some a)) (hr : rowT P T = some false) (hc : w0.cell? a = some v) (hn : ¬ F0 a.block) :
    Runs P w0 F0 L n env ⟨d, .load T x, ty, pos, af, gd⟩ v := r_load hx fun w ⟨F, hF, hst⟩ => run_loadVar_one hr (by
      rw [World.cell?_of_block (hst.old (World.block_lt_of_cell? w0 a hc) hn).1]; exact hc)

/-! ### New blocks, stores -/
theorem St.new {w : World} {T : TypeId} {cs : List Value} (hs : St w0 F0 L w) : St w0 F0 (blk w.heap.size T cs :: L) { w with heap := w.heap.push (.cells cs.toArray T) } := by
  obtain ⟨F, hF, hst⟩ := hs
  refine ⟨fun k => k = w.heap.size ∨ F k, ⟨fun k => k = w.heap.size, F, ⟨fun k => Iff.rfl, (0, 0), by simp, fun i _ h => by simp at h⟩, ?_, fun k => Iff.rfl, ?_⟩, ?_⟩
  · exact stars_loc hF fun k hk => by
      have := stars_lt hF k hk
      simp [Array.getElem?_push, Nat.ne_of_lt this]
  · rintro k rfl hk
    exact absurd (stars_lt hF _ hk) (Nat.lt_irrefl _)
  · have hsz := hst.size
    refine ⟨hst.os, hst.tape, hst.output, by simp; omega, fun k hk hn => ?_, ?_⟩
    · rw [← hst.block k hk hn]
      show (w.heap.push _)[k]? = _
      rw [Array.getElem?_push, if_neg (by omega)]
    · rintro k (rfl | hk)
      · exact .inr hsz
      · exact hst.own k hk
theorem gl_alloc0 {t : Option Tmp} {T : TypeId} {cs : List Value} (hw : Wt ops n env ⟨t, .alloc T, ty, pos, af, gd⟩ true) (hz : zcT P T = some cs)
    (k : ∀ b, Gl P w0 F0 (blk b T cs :: L) ops Q rest n (pu t (.pointer (some ⟨b, 0, none⟩)) env)) : Gl P w0 F0 L ops Q (⟨t, .alloc T, ty, pos, af, gd⟩ :: rest) n env :=
  gl_effx hw (fun w hs => ⟨w.heap.size, { w with heap := w.heap.push (.cells cs.toArray T) }, by
    obtain ⟨z, hz', hc⟩ := zcT_some hz
    subst hc
    simp [execOp, Instr.alloc, run_zeroT hz', newVar, newRow, newObj, Sem.run], hs.new⟩) k
theorem gl_box0 {t : Option Tmp} {T : TypeId} {x : Operand} {v : Value} {cs : List Value} (hw : Wt ops n env ⟨t, .box T x, ty, pos, af, gd⟩ true) (hx : ev n env x = v) (hc : v.cells.toList = cs)
    (k : ∀ b, Gl P w0 F0 (blk b T cs :: L) ops Q rest n (pu t (.pointer (some ⟨b, 0, none⟩)) env)) : Gl P w0 F0 L ops Q (⟨t, .box T x, ty, pos, af, gd⟩ :: rest) n env :=
  gl_effx hw (fun w hs => ⟨w.heap.size, { w with heap := w.heap.push (.cells cs.toArray T) }, by
    subst hc
    simp [execOp, hx, Instr.box, newVar, newRow, newObj, Sem.run], hs.new⟩) k

theorem gl_alloc {t : Tmp} {T : TypeId} {cs : List Value} (hw : Wt ops n env ⟨some t, .alloc T, ty, pos, af, gd⟩ true) (hz : zcT P T = some cs)
    (k : ∀ b, Gl P w0 F0 (blk b T cs :: L) ops Q rest n ((t, .pointer (some ⟨b, 0, none⟩)) :: env)) : Gl P w0 F0 L ops Q (⟨some t, .alloc T, ty, pos, af, gd⟩ :: rest) n env := gl_alloc0 hw hz k
/-- cs with new in the place of as many cells from o on. -/
def updL (cs : List Value) (o : Nat) (new : List Value) : List Value := cs.take o ++ (new ++ cs.drop (o + new.length))
theorem updL_length {cs new : List Value} {o : Nat} (h : o + new.length ≤ cs.length) : (updL cs o new).length = cs.length := by
  simp [updL]; omega
theorem updL_cons {cs : List Value} {o : Nat} {v : Value} {r : List Value} (h : o < cs.length) : updL cs o (v :: r) = updL (cs.set o v) (o + 1) r := by
  simp only [updL, List.length_cons]
  rw [List.take_succ_eq_append_getElem (by simpa using h), List.append_assoc]
  congr 1
  · simp [List.take_set_of_le]
  · simp only [List.getElem_set_self, List.singleton_append, List.cons_append, List.cons.injEq, true_and]
    rw [show o + 1 + r.length = o + (r.length + 1) by omega, List.drop_set_of_lt (by omega)]
    rfl
theorem run_storeCells_blk {T : TypeId} {fz : Nat × Nat} (g o : Nat) : ∀ (vs : List Value) (i : Nat) (cs : List Value) (w : World), w.heap[g]? = some (.cells cs.toArray T fz) → okFz cs.length fz → o + i + vs.length ≤ cs.length → (∀ v ∈ vs, v.oneCell' = true) →
    (storeCells ⟨g, o, none⟩ vs i).run P w = .ok () { w with heap := w.heap.setIfInBounds g (.cells (updL cs (o + i) vs).toArray T fz) }
  | [], i, cs, w, hg, _, _, _ => by
    simp only [storeCells, Sem.run_pure]
    congr 1
    cases w
    simp only [World.mk.injEq, true_and, and_true]
    apply Array.ext_getElem?
    intro j
    simp only [updL, List.nil_append, List.length_nil, Nat.add_zero, List.take_append_drop]
    rw [Array.getElem?_setIfInBounds]
    split
    · rename_i h; subst h
      simp only at hg
      rw [hg]
      rw [if_pos (Array.getElem?_eq_some_iff.1 hg).1]
    · rfl
  | v :: r, i, cs, w, hg, hz, hl, h1 => by
    simp only [List.length_cons] at hl
    have hlt : g < w.heap.size := (Array.getElem?_eq_some_iff.1 hg).1
    have hc : w.cell? ⟨g, o + i, none⟩ = some cs[o + i] := by
      simp [World.cell?, hg]
    have hf : w.frozen? ⟨g, o + i, none⟩ = false := by
      have := hz (o + i) (by omega)
      simp only [World.frozen?, hg]
      simp only [not_and, Nat.not_lt] at this
      simp only [Bool.and_eq_false_iff, decide_eq_false_iff_not, Nat.not_le, Nat.not_lt]
      by_cases h : fz.1 ≤ o + i
      · exact .inr (this h)
      · exact .inl (by omega)
    have hset : w.setCell ⟨g, o + i, none⟩ v = { w with heap := w.heap.setIfInBounds g (.cells (cs.set (o + i) v).toArray T fz) } := by
      simp only [World.setCell]
      congr 1
      apply Array.ext_getElem?
      intro j
      rw [Array.getElem?_modify, Array.getElem?_setIfInBounds]
      by_cases h : g = j
      · subst h
        rw [if_pos rfl, if_pos rfl, if_pos hlt, hg]
        simp
      · rw [if_neg h, if_neg h]
    have ih := run_storeCells_blk (T := T) (fz := fz) g o r (i + 1) (cs.set (o + i) v) { w with heap := w.heap.setIfInBounds g (.cells (cs.set (o + i) v).toArray T fz) } (by simp [hlt]) (by simpa using hz) (by simp; omega) (fun u hu => h1 u (by simp [hu]))
    have hs : (store ((⟨g, o, none⟩ : Addr).add i) v).run P w = .ok () (w.setCell ⟨g, o + i, none⟩ v) := by
      rw [Addr.add_mid]
      simp only [run_store P w _ v _ (h1 v (by simp)), stored, hc, hf]
      rfl
    simp only [storeCells, Sem.run_bind]
    rw [hs, Result.andThen_ok, hset, ih, updL_cons (by omega)]
    simp [Nat.add_assoc]
theorem St.store {w : World} {g T o : Nat} {cs new : List Value} {L' : List Res} (hs : St w0 F0 L w) (hp : Pick L (blk g T cs) L') (hl : o + new.length ≤ cs.length) (h1 : ∀ v ∈ new, v.oneCell' = true) :
    ∃ w', (storeCells ⟨g, o, none⟩ new).run P w = .ok () w' ∧ St w0 F0 (blk g T (updL cs o new) :: L') w' := by
  obtain ⟨F, hF, hst⟩ := hs
  obtain ⟨F1, F2, ⟨hF1, fz, hg, hz⟩, h2, hE, hd⟩ := hp.stars hF
  refine ⟨_, run_storeCells_blk (P := P) g o new 0 cs w hg hz (by omega) h1, F, ⟨F1, F2, ⟨hF1, fz, ?_, ?_⟩, ?_, hE, hd⟩, ?_⟩
  · have hlt : g < w.heap.size := (Array.getElem?_eq_some_iff.1 hg).1
    simp [hlt]
  · simpa only [Nat.add_zero, updL_length hl] using hz
  · refine stars_loc h2 fun k hk => ?_
    have : ¬ g = k := fun e => hd k ((hF1 k).2 e.symm) hk
    simp [Array.getElem?_setIfInBounds, this]
  · refine ⟨hst.os, hst.tape, hst.output, by simpa using hst.size, fun k hk hn => ?_, hst.own⟩
    rw [← hst.block k hk hn]
    have : ¬ g = k := fun e => (hst.old hk hn).2 ((hE k).2 (.inl ((hF1 k).2 e.symm)))
    simp [Array.getElem?_setIfInBounds, this]
theorem gl_store0 {t : Option Tmp} {T : TypeId} {x y : Operand} {g o T' m : Nat} {cs new cs' : List Value} {L' : List Res} {v : Value} (hw : Wt ops n env ⟨t, .store T x y, ty, pos, af, gd⟩ true)
    (hx : ev n env x = .pointer (some ⟨g, o, none⟩)) (hy : ev n env y = v) (hc : v.cells.toList = new) (hs : szT P T = some m) (hm : new.length = m) (hp : Pick L (blk g T' cs) L') (hl : o + m ≤ cs.length) (h1 : ∀ u ∈ new, u.oneCell' = true)
    (hu : updL cs o new = cs') (k : Gl P w0 F0 (blk g T' cs' :: L') ops Q rest n (pu t undef env)) : Gl P w0 F0 L ops Q (⟨t, .store T x y, ty, pos, af, gd⟩ :: rest) n env :=
  gl_skip hw (fun w hst => by
    obtain ⟨w', hr, hs'⟩ := hst.store (P := P) (o := o) (new := new) hp (by omega) h1
    refine ⟨w', ?_, by rw [← hu]; exact hs'⟩
    have hv : v.cells.size = m := by rw [← hm, ← hc]; simp
    simp [execOp, hx, hy, Instr.storeAt, Instr.sureAddr, storeVar, hv, run_sz hs, hc, hr]) k

theorem gl_storeN {T : TypeId} {x y : Operand} {g o T' m : Nat} {cs new cs' : List Value} {L' : List Res} (hw : Wt ops n env ⟨none, .store T x y, ty, pos, af, gd⟩ true)
    (hx : ev n env x = .pointer (some ⟨g, o, none⟩)) (hy : ev n env y = .agg new.toArray) (hs : szT P T = some m) (hm : new.length = m) (hp : Pick L (blk g T' cs) L') (hl : o + m ≤ cs.length) (h1 : ∀ u ∈ new, u.oneCell' = true)
    (hu : updL cs o new = cs') (k : Gl P w0 F0 (blk g T' cs' :: L') ops Q rest n env) : Gl P w0 F0 L ops Q (⟨none, .store T x y, ty, pos, af, gd⟩ :: rest) n env := gl_store0 hw hx hy (by simp [Value.cells]) hs hm hp hl h1 hu k
theorem gl_store1 {T : TypeId} {x y : Operand} {g o T' : Nat} {cs cs' : List Value} {L' : List Res} {v : Value} (hw : Wt ops n env ⟨none, .store T x y, ty, pos, af, gd⟩ true)
    (hx : ev n env x = .pointer (some ⟨g, o, none⟩)) (hy : ev n env y = v) (h1 : v.oneCell' = true) (hs : szT P T = some 1) (hp : Pick L (blk g T' cs) L') (hl : o + 1 ≤ cs.length)
    (hu : updL cs o [v] = cs') (k : Gl P w0 F0 (blk g T' cs' :: L') ops Q rest n env) : Gl P w0 F0 L ops Q (⟨none, .store T x y, ty, pos, af, gd⟩ :: rest) n env :=
  gl_store0 hw hx hy (by cases v <;> first | rfl | (simp [Value.oneCell'] at h1)) hs rfl hp hl (by simpa using h1) hu k
theorem gl_boxN {t : Tmp} {T : TypeId} {x : Operand} {cs : List Value} (hw : Wt ops n env ⟨some t, .box T x, ty, pos, af, gd⟩ true) (hx : ev n env x = .agg cs.toArray)
    (k : ∀ b, Gl P w0 F0 (blk b T cs :: L) ops Q rest n ((t, .pointer (some ⟨b, 0, none⟩)) :: env)) : Gl P w0 F0 L ops Q (⟨some t, .box T x, ty, pos, af, gd⟩ :: rest) n env := gl_box0 hw hx (by simp [Value.cells]) k
theorem gl_box1 {t : Tmp} {T : TypeId} {x : Operand} {v : Value} (hw : Wt ops n env ⟨some t, .box T x, ty, pos, af, gd⟩ true) (hx : ev n env x = v) (h1 : v.oneCell' = true)
    (k : ∀ b, Gl P w0 F0 (blk b T [v] :: L) ops Q rest n ((t, .pointer (some ⟨b, 0, none⟩)) :: env)) : Gl P w0 F0 L ops Q (⟨some t, .box T x, ty, pos, af, gd⟩ :: rest) n env :=
  gl_box0 hw hx (by cases v <;> first | rfl | (simp [Value.oneCell'] at h1)) k

/-! ### Calls of a Go function -/
theorem e_call {f : FuncId} {xs : List Operand} {ts : Array TypeId} {vs : List Value} (hf : okCall P f = true) (hv : xs.map (ev n env) = vs) (w : World) :
    (execOp (ev n env) ⟨d, .call ⟨.value (.func f), xs.toArray, ts⟩, ty, pos, af, gd⟩).run P w = .ok (.enter f vs.toArray) w := by
  unfold okCall at hf
  cases hp : P.funcs[f]? with
  | none => simp [hp] at hf
  | some fn =>
    cases hb : fn.body with
    | none => simp [hp, hb] at hf
    | some c =>
      have hn : ¬ fn.name = "runtime.NumGoroutine" := by simpa [hp, hb] using hf
      simp [execOp, resolve, ev, Deferred.ofValue, invoke, callFunc, program, Sem.run, hp, hb, hn, hv]
end ops
end Go.Proofs.YtobjojeliibinaaGreatDoor

/- The engine, part D: slices: what is read, what is owned; append, literals, bytes and strings. -/
namespace Go.Proofs.YtobjojeliibinaaGreatDoor
open Go
set_option linter.unusedVariables false
set_option linter.unusedSimpArgs false

abbrev B8 (u : UInt8) : Value := .int .u8 (u.toNat : Int)
theorem one_B8 (l : List UInt8) : ∀ v ∈ l.map B8, v.oneCell' = true := fun v hv => by
  obtain ⟨u, _, rfl⟩ := List.mem_map.1 hv; rfl

/-! ### What a slice reads as -/
/-- The n elements (size cells each) of a slice that begins at a are the cells xs; they lie in a block of A. -/
def RdRow (w : World) (A : Nat → Prop) (size : Nat) (a : Option Addr) (n : Nat) (xs : List Value) : Prop :=
  xs.length = n * size ∧ n ≤ maxLen ∧ (0 < n → ∃ g o, a = some ⟨g, o, none⟩ ∧ A g ∧ g < w.heap.size ∧ w.rangeAt g o xs)

theorem RdRow.mv {w w' : World} {A A' : Nat → Prop} {size n : Nat} {a : Option Addr} {xs : List Value} (h : RdRow w A size a n xs)
    (hk : ∀ k, k < w.heap.size → A k → w'.heap[k]? = w.heap[k]? ∧ A' k) : RdRow w' A' size a n xs := by
  refine ⟨h.1, h.2.1, fun hn => ?_⟩
  obtain ⟨g, o, ha, hA, hl, hr⟩ := h.2.2 hn
  obtain ⟨e, hA'⟩ := hk g hl hA
  refine ⟨g, o, ha, hA', ?_, fun j v hj => ?_⟩
  · rw [Array.getElem?_eq_getElem hl] at e
    exact (Array.getElem?_eq_some_iff.1 e).1
  · rw [World.cell?_of_block (w := w) (a := ⟨g, o + j, none⟩) e]; exact hr j v hj
theorem RdRow.nil {w : World} {A : Nat → Prop} {size : Nat} {a : Option Addr} : RdRow w A size a 0 [] := ⟨by simp, by simp [maxLen], fun h => absurd h (by omega)⟩
theorem RdRow.first {P : Program} {w : World} {A : Nat → Prop} {size n c : Nat} {a : Option Addr} {xs : List Value} (h : RdRow w A size a n xs) :
    (Builtin.firstCells size n (.slice a n c)).run P w = .ok xs.toArray w := by
  cases a with
  | none =>
    have hn : n = 0 := by
      rcases Nat.eq_zero_or_pos n with h0 | h0
      · exact h0
      · obtain ⟨_, _, ha, _⟩ := h.2.2 h0; cases ha
    subst hn
    have : xs = [] := List.eq_nil_of_length_eq_zero (by simpa using h.1)
    subst this
    simp [Builtin.firstCells]
  | some ad =>
    refine run_firstCells_some w size n ad n c xs h.1 fun j v hj => ?_
    rcases Nat.eq_zero_or_pos n with h0 | h0
    · subst h0
      have : xs = [] := List.eq_nil_of_length_eq_zero (by simpa using h.1)
      subst this; simp at hj
    · obtain ⟨g, o, ha, _, _, hr⟩ := h.2.2 h0
      injection ha with ha; subst ha
      rw [Addr.add_mid]; exact hr j v hj
/-- The cells of one element. -/
theorem RdRow.elem {w : World} {A : Nat → Prop} {size n : Nat} {a : Option Addr} {xs : List Value} (h : RdRow w A size a n xs) {i : Nat} (hi : i < n) :
    ∃ g o, a = some ⟨g, o, none⟩ ∧ A g ∧ g < w.heap.size ∧ w.rangeAt g (o + i * size) ((xs.drop (i * size)).take size) := by
  obtain ⟨g, o, ha, hA, hl, hr⟩ := h.2.2 (by omega)
  refine ⟨g, o, ha, hA, hl, fun j v hj => ?_⟩
  rw [List.getElem?_take] at hj
  split at hj
  · rw [List.getElem?_drop] at hj
    rw [Nat.add_assoc]; exact hr _ v hj
  · cases hj
/-- A cut of it. -/
theorem RdRow.cut {w : World} {A : Nat → Prop} {size n c l h : Nat} {a : Option Addr} {xs : List Value} (hr : RdRow w A size a n xs) (h1 : l ≤ h) (h2 : h ≤ n) (h3 : n ≤ c) :
    RdRow w A size (if c = l then a else a.map (·.add (l * size))) (h - l) ((xs.drop (l * size)).take ((h - l) * size)) := by
  have hle : h * size ≤ xs.length := by rw [hr.1]; exact Nat.mul_le_mul_right _ h2
  have hle' : l * size ≤ h * size := Nat.mul_le_mul_right _ h1
  have hsub : (h - l) * size = h * size - l * size := Nat.sub_mul _ _ _
  refine ⟨by rw [List.length_take, List.length_drop]; omega, by have := hr.2.1; omega, fun hn => ?_⟩
  obtain ⟨g, o, rfl, hA, hl, hx⟩ := hr.2.2 (by omega)
  rw [if_neg (by omega)]
  refine ⟨g, o + l * size, by simp [Addr.add_mid], hA, hl, fun j v hj => ?_⟩
  rw [List.getElem?_take] at hj
  split at hj
  · rw [List.getElem?_drop] at hj
    rw [Nat.add_assoc]; exact hx _ v hj
  · cases hj

/-! ### What is owned -/
def rowR (e size : Nat) (a : Option Addr) (n c : Nat) (xs : List Value) : Res where
  on w F := xs.length = n * size ∧ n ≤ c ∧ c ≤ maxLen ∧ ((a = none ∧ c = 0 ∧ ∀ k, ¬ F k) ∨
    ∃ g o cs fz, a = some ⟨g, o, none⟩ ∧ (∀ k, F k ↔ k = g) ∧ w.heap[g]? = some (.cells cs e fz) ∧ okFz cs.size fz ∧ o + c * size ≤ cs.size ∧ (cs.toList.drop o).take (n * size) = xs)
  loc := fun ⟨h1, h2, h3, h⟩ hk => ⟨h1, h2, h3, h.imp id fun ⟨g, o, cs, fz, ha, hF, hg, r⟩ => ⟨g, o, cs, fz, ha, hF, (hk g ((hF g).2 rfl)).trans hg, r⟩⟩
  ok := fun ⟨_, _, _, h⟩ k hk => by
    rcases h with ⟨_, _, h⟩ | ⟨g, o, cs, fz, _, hF, hg, hz, _⟩
    · exact absurd hk (h k)
    · rw [(hF k).1 hk]; exact ⟨_, hg, hz⟩

theorem rowR.rd {e size n c : Nat} {a : Option Addr} {xs : List Value} {w : World} {F : Nat → Prop} (h : (rowR e size a n c xs).on w F) : RdRow w F size a n xs := by
  obtain ⟨h1, h2, h3, h⟩ := h
  refine ⟨h1, Nat.le_trans h2 h3, fun hn => ?_⟩
  rcases h with ⟨_, h, _⟩ | ⟨g, o, cs, fz, ha, hF, hg, _, hl, hx⟩
  · omega
  · refine ⟨g, o, ha, (hF g).2 rfl, (Array.getElem?_eq_some_iff.1 hg).1, fun j v hj => ?_⟩
    rw [← hx, List.getElem?_take] at hj
    split at hj
    · simp [World.cell?, hg]
      rw [List.getElem?_drop] at hj
      simpa using hj
    · cases hj
theorem rowR.nil {e size : Nat} {w : World} : (rowR e size none 0 0 []).on w (fun _ => False) := ⟨by simp, Nat.le_refl _, by simp [maxLen], .inl ⟨rfl, rfl, fun _ h => h⟩⟩
theorem stars_row_nil {e size : Nat} {L : List Res} {w : World} {F : Nat → Prop} (h : stars L w F) : stars (rowR e size none 0 0 [] :: L) w F :=
  ⟨_, F, rowR.nil, h, fun k => by simp, fun _ h => h.elim⟩
theorem rowR.of_blk {e size g o n c : Nat} {cs xs : List Value} {w : World} {F : Nat → Prop} (h : (blk g e cs).on w F) (hx : (cs.drop o).take (n * size) = xs) (hl : o + c * size ≤ cs.length) (hn : n ≤ c) (hc : c ≤ maxLen) :
    (rowR e size (some ⟨g, o, none⟩) n c xs).on w F := by
  obtain ⟨hF, fz, hg, hz⟩ := h
  have : n * size ≤ c * size := Nat.mul_le_mul_right _ hn
  exact ⟨by rw [← hx, List.length_take, List.length_drop]; omega, hn, hc, .inr ⟨g, o, cs.toArray, fz, rfl, hF, hg, by simpa using hz, by simpa using hl, by simpa using hx⟩⟩
theorem rowR.cut {e size n c l h : Nat} {a : Option Addr} {xs : List Value} {w : World} {F : Nat → Prop} (hr : (rowR e size a n c xs).on w F) (h1 : l ≤ h) (h2 : h ≤ n) :
    (rowR e size (if c = l then a else a.map (·.add (l * size))) (h - l) (c - l) ((xs.drop (l * size)).take ((h - l) * size))).on w F := by
  obtain ⟨e1, e2, e3, hh⟩ := hr
  have hle : h * size ≤ xs.length := by rw [e1]; exact Nat.mul_le_mul_right _ h2
  have hle' : l * size ≤ h * size := Nat.mul_le_mul_right _ h1
  have hsub : (h - l) * size = h * size - l * size := Nat.sub_mul _ _ _
  refine ⟨by rw [List.length_take, List.length_drop]; omega, by omega, by omega, ?_⟩
  rcases hh with ⟨rfl, rfl, hF⟩ | ⟨g, o, cs, fz, rfl, hF, hg, hz, hl, hx⟩
  · have : l = 0 := by omega
    subst this
    exact .inl ⟨by simp, rfl, hF⟩
  · right
    by_cases hc : c = l
    · rw [if_pos hc]
      have : h = l := by omega
      subst this
      subst hc
      exact ⟨g, o, cs, fz, rfl, hF, hg, hz, by simp; omega, by simp⟩
    · rw [if_neg hc]
      have hcl : (c - l) * size = c * size - l * size := Nat.sub_mul _ _ _
      have hcl' : l * size ≤ c * size := Nat.mul_le_mul_right _ (by omega)
      refine ⟨g, o + l * size, cs, fz, by simp [Addr.add_mid], hF, hg, hz, by omega, ?_⟩
      rw [← hx, List.drop_take, List.drop_drop, List.take_take]
      congr 1
      have : n * size = xs.length := e1.symm
      omega

section rows
variable {P : Program} {w0 : World} {F0 : Nat → Prop} {L : List Res} {Q : Exit → Act → World → Prop} {n : Fm} {env : Env} {ops : Array Oper} {rest : List Oper}
variable {d : Option Tmp} {ty : TypeId} {pos : String} {af : Array Edge} {gd : Option (Nat × Bool)}

theorem St.row {w : World} {e size a m c xs} {L' : List Res} (hs : St w0 F0 L w) (hp : Pick L (rowR e size a m c xs) L') : RdRow w (fun _ => True) size a m xs := by
  obtain ⟨F, hF, _⟩ := hs
  obtain ⟨F1, h1, _⟩ := stars_pick hp hF
  exact (rowR.rd h1).mv fun k _ _ => ⟨rfl, trivial⟩
theorem St.rdOld {w : World} {size a m xs} (hs : St w0 F0 L w) (h : RdRow w0 (fun k => ¬ F0 k) size a m xs) : RdRow w (fun _ => True) size a m xs := by
  obtain ⟨F, _, hst⟩ := hs
  exact h.mv fun k hk hn => ⟨(hst.old hk hn).1, trivial⟩

/-- A new block, and nothing else (draws aside). -/
theorem St.newW {w w' : World} {T : TypeId} {cs : Array Value} {fz : Nat × Nat} (hs : St w0 F0 L w) (hh : w'.heap = w.heap.push (.cells cs T fz)) (ho : w'.os = w.os) (ht : w'.tape = w.tape) (hu : w'.output = w.output) :
    ∃ F, stars L w' F ∧ Stp w0 F0 w' F ∧ (∀ k, F k → k < w.heap.size) ∧ Stp w0 F0 w' (fun k => k = w.heap.size ∨ F k) := by
  obtain ⟨F, hF, hst⟩ := hs
  have hold : ∀ k, k < w.heap.size → w'.heap[k]? = w.heap[k]? := fun k hk => by rw [hh, Array.getElem?_push, if_neg (by omega)]
  have hsz : w.heap.size ≤ w'.heap.size := by rw [hh]; simp
  have hst' : Stp w0 F0 w' F := ⟨ho.trans hst.os, ht.trans hst.tape, hu.trans hst.output, Nat.le_trans hst.size hsz, fun k hk hn => (hold k (Nat.lt_of_lt_of_le hk hst.size)).trans (hst.block k hk hn), hst.own⟩
  refine ⟨F, stars_loc hF fun k hk => hold k (stars_lt hF k hk), hst', stars_lt hF, { hst' with own := ?_ }⟩
  rintro k (rfl | hk)
  · exact .inr hst.size
  · exact hst.own k hk

theorem St.newRow {w w' : World} {e size m c : Nat} {cs : Array Value} {fz : Nat × Nat} {xs : List Value} (hs : St w0 F0 L w) (hh : w'.heap = w.heap.push (.cells cs e fz)) (ho : w'.os = w.os) (ht : w'.tape = w.tape) (hu : w'.output = w.output)
    (hz : okFz cs.size fz) (hx : cs.toList.take (m * size) = xs) (hm : m ≤ c) (hc : c ≤ maxLen) (hl : c * size ≤ cs.size) : St w0 F0 (rowR e size (some ⟨w.heap.size, 0, none⟩) m c xs :: L) w' := by
  obtain ⟨F, hF, _, hlt, hst⟩ := hs.newW hh ho ht hu
  have hle : m * size ≤ c * size := Nat.mul_le_mul_right _ hm
  refine ⟨_, ⟨fun k => k = w.heap.size, F, ⟨by rw [← hx, List.length_take]; simp; omega, hm, hc, .inr ⟨w.heap.size, 0, cs, fz, rfl, fun _ => Iff.rfl, by rw [hh]; simp, hz, by omega, by simpa using hx⟩⟩, hF, fun k => Iff.rfl, ?_⟩, hst⟩
  rintro k rfl hk
  exact absurd (hlt _ hk) (Nat.lt_irrefl _)

/-- append onto what is owned. -/
theorem St.append {w : World} {e size bytes m c k c2 : Nat} {a a2 : Option Addr} {xs news : List Value} {L' : List Res} {t ty : TypeId} {i : TypeInfo} {z : Value} {A : Nat → Prop}
    (hs : St w0 F0 L w) (hp : Pick L (rowR e size a m c xs) L') (ht : P.underlying t = some (.slice e)) (hi : P.info? e = some i) (hz : i.zero = some z) (hsize : i.size = size) (hby : i.bytes = bytes) (hzs : z.cells.size = size) (hsz : 0 < size)
    (hr : RdRow w A size a2 k news) (h1 : ∀ u ∈ news, u.oneCell' = true) (h63 : m + k ≤ maxLen) (hb : (m + k) * bytes ≤ 140737488355328) :
    ∃ a' c' w', (Builtin.append_ #[t, t] ty #[.slice a m c, .slice a2 k c2]).run P w = .ok (.slice a' (m + k) c') w' ∧ St w0 F0 (rowR e size a' (m + k) c' (xs ++ news) :: L') w' := by
  subst hsize
  subst hby
  have hsmall : m + k ≤ 9223372036854775807 := by simp only [maxLen] at h63; omega
  obtain ⟨F, hF, hst⟩ := hs
  obtain ⟨F1, F2, hrow, h2, hE, hd⟩ := hp.stars hF
  have hown := hrow
  obtain ⟨hxl, hmc, hcm, hcase⟩ := hrow
  have hs' : St w0 F0 L' w := ⟨F2, h2, hst.weak fun k hk => (hE k).2 (.inr hk)⟩
  have hlen : (xs ++ news).length = (m + k) * i.size := by rw [List.length_append, hxl, hr.1, Nat.add_mul]
  by_cases hroom : m + k ≤ c
  · rcases hcase with ⟨rfl, rfl, hF1⟩ | ⟨g, o, cs, fz, rfl, hF1, hg, hfz, hl, hx⟩
    · have hm0 : m = 0 := by omega
      have hk0 : k = 0 := by omega
      subst hm0; subst hk0
      have hx0 : xs = [] := List.eq_nil_of_length_eq_zero (by simpa using hxl)
      have hn0 : news = [] := List.eq_nil_of_length_eq_zero (by simpa using hr.1)
      subst hx0; subst hn0
      refine ⟨none, 0, w, ?_, ?_⟩
      · have hf := hr.first (P := P) (c := c2)
        simp [Builtin.append_, run_underlying ht, sizeOf, typeInfo, hi, Builtin.lenOf, hf]
      · exact ⟨F2, stars_row_nil h2, hst.weak fun k hk => (hE k).2 (.inr hk)⟩
    · have hfit : m * i.size + news.length ≤ c * i.size := by rw [hr.1, ← Nat.add_mul]; exact Nat.mul_le_mul_right _ hroom
      have hst' := run_storeCells_blk (P := P) (T := e) (fz := fz) g (o + m * i.size) news 0 cs.toList w (by simpa using hg) (by simpa using hfz) (by simp; omega) h1
      refine ⟨some ⟨g, o, none⟩, c, { w with heap := w.heap.setIfInBounds g (.cells (updL cs.toList (o + m * i.size) news).toArray e fz) }, ?_, F, ⟨F1, F2, ⟨hlen, hroom, hcm, .inr ⟨g, o, (updL cs.toList (o + m * i.size) news).toArray, fz, rfl, hF1, ?_, ?_, ?_, ?_⟩⟩, ?_, hE, hd⟩, ?_⟩
      · have hf := hr.first (P := P) (c := c2)
        simp only [Nat.add_zero] at hst'
        simp [Builtin.append_, run_underlying ht, sizeOf, typeInfo, hi, Builtin.lenOf, hroom, hf, Addr.add_mid, hst']
      · have hlt : g < w.heap.size := (Array.getElem?_eq_some_iff.1 hg).1
        simp [hlt]
      · rw [List.size_toArray, updL_length (by simp; omega)]; simpa using hfz
      · rw [List.size_toArray, updL_length (by simp; omega)]; simpa using hl
      · rw [← hlen]
        simp only [updL]
        have e1 : (cs.toList.take (o + m * i.size)).drop o = xs := by
          rw [List.drop_take, ← hx]; congr 1; omega
        rw [List.drop_append_of_le_length (by simp; omega), e1, ← List.append_assoc]
        exact List.take_left
      · refine stars_loc h2 fun j hj => ?_
        have : ¬ g = j := fun e => hd j ((hF1 j).2 e.symm) hj
        simp [Array.getElem?_setIfInBounds, this]
      · refine ⟨hst.os, hst.tape, hst.output, by simpa using hst.size, fun j hj hn => ?_, hst.own⟩
        rw [← hst.block j hj hn]
        have : ¬ g = j := fun e => (hst.old hj hn).2 ((hE j).2 (.inl ((hF1 j).2 e.symm)))
        simp [Array.getElem?_setIfInBounds, this]
  · have hge := grownCap_ge w (m + k) c e
    have hcl : grownCap w (m + k) c e ≤ maxLen := grownCap_le_maxLen w (m + k) c e h63
    have hfo := (rowR.rd hown).first (P := P) (c := c)
    have hfn := hr.first (P := P) (c := c2)
    have hrun : (Builtin.append_ #[t, t] ty #[.slice a m c, .slice a2 k c2]).run P w = .ok (.slice (some ⟨w.heap.size, 0, none⟩) (m + k) (grownCap w (m + k) c e))
        (w.drew.alloc (.cells (xs.toArray ++ news.toArray ++ Builtin.zeroCells z.cells (grownCap w (m + k) c e - (m + k))) e)) := by
      have h48' : ¬ (281474976710656 < Builtin.nextslicecap (m + k) c * i.bytes) := by
        have := growslice_fits (need := m + k) (old := c) (by omega) hb; omega
      have h63' : ¬ (9223372036854775807 < ((m : Int) + (k : Int))) := by omega
      have hfo' : (Builtin.firstCells i.size m (.slice a m c)).run P w.drew = .ok xs.toArray w.drew := ((rowR.rd hown).mv (w' := w.drew) (A' := fun _ => True) fun _ _ _ => ⟨rfl, trivial⟩).first
      have hfn' : (Builtin.firstCells i.size k (.slice a2 k c2)).run P w.drew = .ok news.toArray w.drew := (hr.mv (w' := w.drew) (A' := fun _ => True) fun _ _ _ => ⟨rfl, trivial⟩).first
      simp [Builtin.append_, run_underlying ht, sizeOf, typeInfo, zeroValue, hi, hz, Builtin.lenOf, hroom, h63', h48', Question.forced, hfo', hfn', Go.newRow, grownCap]
      congr 2
      apply Array.ext'
      simp
    refine ⟨_, _, _, hrun, hs'.newRow (w' := w.drew.alloc _) (fz := (0, 0)) rfl rfl rfl rfl (fun j _ h => by simp at h) ?_ hge hcl ?_⟩
    · simp only [Array.toList_append, List.append_assoc]
      rw [← List.append_assoc, ← hlen]
      exact List.take_left
    · simp only [Array.size_append, List.size_toArray, size_zeroCells, hzs, hxl, hr.1, ← Nat.add_mul]
      rw [show m + k + (grownCap w (m + k) c e - (m + k)) = grownCap w (m + k) c e by omega]
      exact Nat.le_refl _

theorem gl_append0 {x y : Operand} {t e size bytes m c k c2 : Nat} {a a2 : Option Addr} {xs news : List Value} {L' : List Res} {o : Option Tmp}
    (hw : Wt ops n env ⟨o, .call ⟨.builtin .append, #[x, y], #[t, t]⟩, ty, pos, af, gd⟩ true) (hx : ev n env x = .slice a m c) (hy : ev n env y = .slice a2 k c2) (hp : Pick L (rowR e size a m c xs) L')
    (ht : ElemT P t e size bytes) (hr : ∀ w, St w0 F0 L w → RdRow w (fun _ => True) size a2 k news) (h1 : ∀ u ∈ news, u.oneCell' = true) (h63 : m + k ≤ maxLen) (hb : (m + k) * bytes ≤ 140737488355328)
    (K : ∀ a' c', Gl P w0 F0 (rowR e size a' (m + k) c' (xs ++ news) :: L') ops Q rest n (pu o (.slice a' (m + k) c') env)) :
    Gl P w0 F0 L ops Q (⟨o, .call ⟨.builtin .append, #[x, y], #[t, t]⟩, ty, pos, af, gd⟩ :: rest) n env := by
  obtain ⟨hsl, ⟨i, z, hi, hz, hsz, hby, hzs⟩, hpos⟩ := ht
  refine gl_effx (α := Option Addr × Nat) (L' := fun p => rowR e size p.1 (m + k) p.2 (xs ++ news) :: L') (v := fun p => .slice p.1 (m + k) p.2) hw (fun w hs => ?_) (fun p => K p.1 p.2)
  obtain ⟨a', c', w', hrun, hs'⟩ := hs.append (P := P) (ty := ty) (c2 := c2) hp hsl hi hz hsz hby hzs hpos (hr w hs) h1 h63 hb
  refine ⟨(a', c'), w', ?_, hs'⟩
  simp [execOp, resolve, invoke, builtin, hx, hy, hrun]
theorem gl_append {x y : Operand} {t e size bytes m c k c2 : Nat} {a a2 : Option Addr} {xs news : List Value} {L' : List Res} {o : Tmp}
    (hw : Wt ops n env ⟨some o, .call ⟨.builtin .append, #[x, y], #[t, t]⟩, ty, pos, af, gd⟩ true) (hx : ev n env x = .slice a m c) (hy : ev n env y = .slice a2 k c2) (hp : Pick L (rowR e size a m c xs) L')
    (ht : ElemT P t e size bytes) (hr : ∀ w, St w0 F0 L w → RdRow w (fun _ => True) size a2 k news) (h1 : ∀ u ∈ news, u.oneCell' = true) (h63 : m + k ≤ maxLen) (hb : (m + k) * bytes ≤ 140737488355328)
    (K : ∀ a' c', Gl P w0 F0 (rowR e size a' (m + k) c' (xs ++ news) :: L') ops Q rest n ((o, .slice a' (m + k) c') :: env)) :
    Gl P w0 F0 L ops Q (⟨some o, .call ⟨.builtin .append, #[x, y], #[t, t]⟩, ty, pos, af, gd⟩ :: rest) n env := gl_append0 hw hx hy hp ht hr h1 h63 hb K
end rows
end Go.Proofs.YtobjojeliibinaaGreatDoor

/- The engine, part E: digests as cells, loops, regions that draw their order, errors held against nil. -/
namespace Go.Proofs.YtobjojeliibinaaGreatDoor
open Go
set_option linter.unusedVariables false
set_option linter.unusedSimpArgs false

/-! ### Digests -/
structure Dig where
  l : List UInt8
  h : l.length = 16
theorem Dig.ext' {a b : Dig} (h : a.l = b.l) : a = b := by cases a; cases b; cases h; rfl
instance : DecidableEq Dig := fun a b => if h : a.l = b.l then isTrue (Dig.ext' h) else isFalse (fun e => h (by rw [e]))
def dc (d : Dig) : List Value := d.l.map B8
theorem dc_length (d : Dig) : (dc d).length = 16 := by simp [dc, d.h]
theorem dc_one (d : Dig) : ∀ v ∈ dc d, v.oneCell' = true := one_B8 _
def dig0 : Dig := ⟨List.replicate 16 0, rfl⟩
theorem zD_length : zD.length = 16 := rfl
theorem drop_dc {d : Dig} {k : Nat} {r : List Value} (h : 16 ≤ k) : List.drop k (dc d ++ r) = List.drop (k - 16) r := by
  rw [List.drop_append, List.drop_eq_nil_of_le (by rw [dc_length]; exact h), dc_length]; rfl
theorem drop_dc' {d : Dig} {k : Nat} (h : 16 ≤ k) : List.drop k (dc d) = [] := List.drop_eq_nil_of_le (by rw [dc_length]; exact h)
theorem take_dc {d : Dig} {k : Nat} {r : List Value} (h : 16 ≤ k) : List.take k (dc d ++ r) = dc d ++ List.take (k - 16) r := by
  rw [List.take_append, List.take_of_length_le (by rw [dc_length]; exact h), dc_length]
theorem take_dc' {d : Dig} {k : Nat} (h : 16 ≤ k) : List.take k (dc d) = dc d := List.take_of_length_le (by rw [dc_length]; exact h)
theorem get_dc {d : Dig} {k : Nat} {r : List Value} (h : 16 ≤ k) : (dc d ++ r)[k]? = r[k - 16]? := by
  rw [List.getElem?_append_right (by rw [dc_length]; exact h), dc_length]
theorem all_cons' {v : Value} {l : List Value} (h : v.oneCell' = true) (k : ∀ u ∈ l, u.oneCell' = true) : ∀ u ∈ v :: l, u.oneCell' = true := by
  intro u hu
  rcases List.mem_cons.1 hu with rfl | hu
  · exact h
  · exact k u hu
theorem all_nil' : ∀ u ∈ ([] : List Value), u.oneCell' = true := fun u hu => by cases hu
theorem all_app' {l m : List Value} (h : ∀ u ∈ l, u.oneCell' = true) (k : ∀ u ∈ m, u.oneCell' = true) : ∀ u ∈ l ++ m, u.oneCell' = true := fun u hu => (List.mem_append.1 hu).elim (h u) (k u)

/-! ### Numbers -/
theorem wrap_i64 {x : Int} (h1 : -9223372036854775808 ≤ x) (h2 : x ≤ 9223372036854775807) : IntKind.i64.wrap x = x := by
  rw [IntKind.wrap_i64]; omega
theorem wrap_u64 {x : Int} (h1 : 0 ≤ x) (h2 : x ≤ 18446744073709551615) : IntKind.u64.wrap x = x := by
  simp only [IntKind.wrap, IntKind.bits, IntKind.signed]; simp; omega
theorem wpStill_mono' {P : Program} {ops : Array Oper} {w : World} {C C' : Act → Prop} (h : ∀ a, C a → C' a) : ∀ {l : List Oper} {a : Act}, wpStill P ops w C l a → wpStill P ops w C' l a
  | [], a, hh => h _ hh
  | o :: r, a, hh => by
    unfold wpStill at hh ⊢
    split
    · rename_i hw; rw [if_pos hw] at hh; exact Oper.still_mono (fun a' h' => wpStill_mono' h h') hh
    · rename_i hw; rw [if_neg hw] at hh; exact wpStill_mono' h hh

section code
variable {P : Program} {w0 : World} {F0 : Nat → Prop} {L : List Res} {Q : Exit → Act → World → Prop} {n : Fm} {env : Env} {ops : Array Oper} {rest : List Oper}

theorem gc_condT {c : Operand} {x y : Code} {b : Bool} (hc : ev n env c = .bool b) (hb : b = true) (h : Gc P w0 F0 L x Q n env) : Gc P w0 F0 L (.cond c x y) Q n env :=
  gc_cond hc (fun _ => h) (fun h' => by rw [hb] at h'; cases h')
theorem gc_condF {c : Operand} {x y : Code} {b : Bool} (hc : ev n env c = .bool b) (hb : b = false) (h : Gc P w0 F0 L y Q n env) : Gc P w0 F0 L (.cond c x y) Q n env :=
  gc_cond hc (fun h' => by rw [hb] at h'; cases h') (fun _ => h)

/-! ### Loops -/
/-- What stands at the loop's head: the slots of a, whatever in the junk's slots, all else as before the loop. -/
def headE {α : Type} (slots : α → Env) (junk : List Nat) (env : Env) (a : α) (u : Nat → Value) : Env := slots a ++ (junk.map (fun t => (t, u t)) ++ env)
def RoundK {α : Type} (w0 : World) (F0 : Nat → Prop) (Ls : α → List Res) (slots : α → Env) (junk : List Nat) (μ : α → Nat) (n : Fm) (env : Env) (m : Nat) (act : Act) (w : World) : Prop :=
  ∃ a u, μ a < m ∧ act = fr n (headE slots junk env a u) ∧ St w0 F0 (Ls a) w
theorem gc_loop {α : Type} {c : Code} (Ls : α → List Res) (slots : α → Env) (junk : List Nat) (μ : α → Nat) (a0 : α)
    (henv : fr n env = fr n (headE slots junk env a0 (Env.get env))) (h0 : ∀ w, St w0 F0 L w → St w0 F0 (Ls a0) w)
    (round : ∀ a u, Gc P w0 F0 (Ls a) c (Exit.then (RoundK w0 F0 Ls slots junk μ n env (μ a)) Q) n (headE slots junk env a u)) : Gc P w0 F0 L (.loop c) Q n env := by
  intro w hw
  rw [henv]
  intro b k cs hro hb hr
  have key : ∀ m a u w, μ a = m → St w0 F0 (Ls a) w →
      ∃ e a' w', Q e a' w' ∧ ArrivesIn (Machine.fenced P (FR n.ro)) P (lone (b.atR (fr n (headE slots junk env a u)) (.code c :: .inLoop c :: k)) cs w) b k cs e a' w' := by
    intro m
    induction m using Nat.strongRecOn with
    | _ m ih =>
      intro a u w hm hs
      obtain ⟨e, a₁, w₁, hq, harr⟩ := round a u w hs b (.inLoop c :: k) cs hro hb hr
      cases e with
      | normal =>
        obtain ⟨a', u', hlt, rfl, hs'⟩ := hq
        obtain ⟨e₂, a₂, w₂, hq₂, harr₂⟩ := ih (μ a') (hm ▸ hlt) a' u' w₁ rfl hs'
        exact ⟨e₂, a₂, w₂, hq₂, .of_steps (StepsIn.trans harr (.one (fenced_calm hb hr rfl) stepR_inLoop)) harr₂⟩
      | exit id => exact ⟨_, a₁, w₁, hq, .pass (x := .inLoop c) rfl (fun _ _ => .inl (by simp)) harr⟩
      | goto l => exact ⟨_, a₁, w₁, hq, .pass (x := .inLoop c) rfl (fun _ _ => .inl (by simp)) harr⟩
      | ret => exact ⟨_, a₁, w₁, hq, .pass (x := .inLoop c) rfl (fun _ _ => .inl (by simp)) harr⟩
      | panic ch => exact ⟨_, a₁, w₁, hq, .pass (x := .inLoop c) rfl (fun _ _ => .inl (by simp)) harr⟩
      | outgrown => exact ⟨_, a₁, w₁, hq, .pass (x := .inLoop c) rfl (fun _ _ => .inl (by simp)) harr⟩
  obtain ⟨e, a', w', hq, harr⟩ := key _ a0 (Env.get env) w rfl (h0 w hw)
  exact ⟨e, a', w', hq, .of_steps (.one (fenced_calm hb hr rfl) stepR_loop) harr⟩

section round
variable {α : Type} {Ls : α → List Res} {slots : α → Env} {junk : List Nat} {μ : α → Nat} {env0 : Env} {m : Nat}
theorem gx_round (a : α) (hE : fr n env = fr n (headE slots junk env0 a (Env.get env))) (hm : μ a < m) (hL : ∀ w, St w0 F0 L w → St w0 F0 (Ls a) w) :
    Gx w0 F0 L (Exit.then (RoundK w0 F0 Ls slots junk μ n env0 m) Q) .normal n env := fun w hw => ⟨a, Env.get env, hm, hE, hL w hw⟩
theorem gx_round_exit {K : Act → World → Prop} {id : Nat} (h : Gx w0 F0 L Q (.exit id) n env) : Gx w0 F0 L (Exit.then K Q) (.exit id) n env := h
theorem gx_round_ret {K : Act → World → Prop} (h : Gx w0 F0 L Q .ret n env) : Gx w0 F0 L (Exit.then K Q) .ret n env := h

theorem get_over {e X : Env} {t : Nat} : ∀ {s : Env}, (∀ p ∈ s, Env.get e p.1 = p.2) → ((∀ p ∈ s, p.1 ≠ t) → Env.get X t = Env.get e t) → Env.get (s ++ X) t = Env.get e t
  | [], _, hX => hX (by simp)
  | (k, v) :: s, h, hX => by
    simp only [List.cons_append, Env.get]
    cases hb : Nat.beq t k with
    | true =>
      have := Nat.eq_of_beq_eq_true hb
      subst this
      exact (h _ (List.mem_cons_self)).symm
    | false =>
      refine get_over (fun p hp => h p (List.mem_cons_of_mem _ hp)) (fun hs => hX fun p hp => ?_)
      rcases List.mem_cons.1 hp with rfl | hp
      · intro he; simp only at he; subst he; rw [Nat.beq_refl] at hb; cases hb
      · exact hs p hp
theorem get_under {X : Env} {t : Nat} : ∀ {s : Env}, (∀ p ∈ s, p.1 ≠ t) → Env.get (s ++ X) t = Env.get X t
  | [], _ => rfl
  | (k, v) :: s, h => by
    simp only [List.cons_append, Env.get]
    cases hb : Nat.beq t k with
    | true => exact absurd (Nat.eq_of_beq_eq_true hb).symm (h _ (List.mem_cons_self))
    | false => exact get_under fun p hp => h p (List.mem_cons_of_mem _ hp)
theorem env_start {a0 : α} {e : Env} (hs : (slots a0).map (fun p => Env.get e p.1) = (slots a0).map Prod.snd) : fr n e = fr n (headE slots junk e a0 (Env.get e)) := by
  refine fr_ext fun t _ => (get_over (fun p hp => ?_) fun _ => get_over (fun p hp => ?_) fun _ => rfl).symm
  · exact (List.map_inj_left.1 hs p hp)
  · obtain ⟨j, _, rfl⟩ := List.mem_map.1 hp; rfl
/-- e stands on b, with these slots ahead. -/
inductive Front (b : Env) : Env → List Nat → Prop
  | here : Front b b []
  | there {k : Nat} {v : Value} {e : Env} {f : List Nat} : Front b e f → Front b ((k, v) :: e) (k :: f)
theorem Front.get {b e : Env} {f : List Nat} (h : Front b e f) {t : Nat} (ht : t ∉ f) : Env.get e t = Env.get b t := by
  induction h with
  | here => rfl
  | there h ih =>
    rename_i k v e f
    simp only [Env.get]
    cases hb : Nat.beq t k with
    | true => exact absurd (Nat.eq_of_beq_eq_true hb) (fun he => ht (by simp [he]))
    | false => exact ih fun hm => ht (List.mem_cons_of_mem _ hm)
theorem env_next {a a' : α} {u : Nat → Value} {e : Env} {f : List Nat} (hf : Front (headE slots junk env0 a u) e f) (hs : (slots a').map (fun p => Env.get e p.1) = (slots a').map Prod.snd)
    (hk : f.all (fun t => ((slots a').map Prod.fst).contains t || junk.contains t) = true) (hkeys : (slots a).map Prod.fst = (slots a').map Prod.fst) : fr n e = fr n (headE slots junk env0 a' (Env.get e)) := by
  refine fr_ext fun t _ => (get_over (fun p hp => ?_) fun h1 => get_over (fun p hp => ?_) fun h2 => ?_).symm
  · exact (List.map_inj_left.1 hs p hp)
  · obtain ⟨j, _, rfl⟩ := List.mem_map.1 hp; rfl
  · have h2' : t ∉ junk := fun hm => h2 (t, Env.get e t) (List.mem_map.2 ⟨t, hm, rfl⟩) rfl
    have h1' : t ∉ (slots a').map Prod.fst := fun hm => by
      obtain ⟨p, hp, rfl⟩ := List.mem_map.1 hm
      exact h1 p hp rfl
    rw [hf.get (t := t) (fun hm => by
      have := List.all_eq_true.1 hk t hm
      simp only [Bool.or_eq_true, List.contains_iff_mem] at this
      exact this.elim h1' h2')]
    rw [headE, get_under, get_under]
    · intro p hp he
      obtain ⟨j, hj, rfl⟩ := List.mem_map.1 hp
      simp only at he; subst he; exact h2' hj
    · intro p hp he
      exact h1' (by rw [← hkeys]; exact List.mem_map.2 ⟨p, hp, he⟩)
end round

/-! ### Regions that draw their order: reads ahead, then the rest in a row -/
theorem St.drawn {w : World} (hs : St w0 F0 L w) (k : Nat) : St w0 F0 L { w with drawn := k } := by
  obtain ⟨F, hF, hst⟩ := hs
  exact ⟨F, stars_loc hF fun _ _ => rfl, ⟨hst.os, hst.tape, hst.output, hst.size, hst.block, hst.own⟩⟩
def Gs (P : Program) (w0 : World) (F0 : Nat → Prop) (L : List Res) (ops : Array Oper) (todo : List Oper) (n : Fm) (env : Env) (C : Env → Prop) : Prop :=
  ∀ w, St w0 F0 L w → wpStill P ops w (fun a => ∃ env', a = fr n env' ∧ C env') todo (fr n env)
theorem gs_nil {C : Env → Prop} (h : C env) : Gs P w0 F0 L ops [] n env C := fun w _ => wpStill_nil ⟨env, rfl, h⟩
theorem gs_pure {d : Tmp} {op : Op} {ty : TypeId} {pos : String} {af : Array Edge} {gd : Option (Nat × Bool)} {v : Value} {C : Env → Prop} (hw : Wt ops n env ⟨some d, op, ty, pos, af, gd⟩ true)
    (h : Runs P w0 F0 L n env ⟨some d, op, ty, pos, af, gd⟩ v) (k : Gs P w0 F0 L ops rest n ((d, v) :: env) C) : Gs P w0 F0 L ops (⟨some d, op, ty, pos, af, gd⟩ :: rest) n env C := by
  intro w hs
  refine wpStill_step ?_
  intro K hK
  rw [if_pos (show Region.wanted _ _ = true from hw)]
  unfold Oper.still
  rw [fr_eval, h w hs, Oper.stillUpon_value, fr_put]
  exact hK _ (k w hs)
theorem gc_regionT {id : Nat} {l : List Oper} (k : Nat) (hm : P.follows .mixedOrders = true) (hB : Region.lexTailB .any l.toArray k = true)
    (h : Gs P w0 F0 L l.toArray (l.take k) n env (fun env' => Gl P w0 F0 L l.toArray Q (l.drop k) n env')) : Gc P w0 F0 L (.region id l.toArray true) Q n env := fun w hw => by
  refine wpIn_region_T k hm hB ?_
  have hw' := hw.drawn (w.drawn + 1)
  have := h _ hw'
  refine wpStill_mono' (fun a ⟨env', ha, hC⟩ => ?_) this
  subst ha
  exact hC _ hw'
end code
end Go.Proofs.YtobjojeliibinaaGreatDoor

/- The engine, part F: what a callee may read; literals of slices and structs; calls of function values. -/
namespace Go.Proofs.YtobjojeliibinaaGreatDoor
open Go
set_option linter.unusedVariables false
set_option linter.unusedSimpArgs false

/-! ### What a callee may read beside what it owns -/
theorem Stp.rd {w0 w : World} {F0 F1 F2 : Nat → Prop} (h : Stp w0 F0 w (fun k => F1 k ∨ F2 k)) : ∀ k, k < w0.heap.size → ¬ F0 k → w.heap[k]? = w0.heap[k]? ∧ ¬ F1 k :=
  fun k hk hn => ⟨(h.old hk hn).1, fun hf => (h.old hk hn).2 (.inl hf)⟩
theorem rd_row {L L' : List Res} {w : World} {F1 F2 : Nat → Prop} {e size n c : Nat} {a : Option Addr} {xs : List Value} (h2 : stars L w F2) (hd : ∀ k, F1 k → ¬ F2 k) (hp : Pick L (rowR e size a n c xs) L') :
    RdRow w (fun k => ¬ F1 k) size a n xs := by
  obtain ⟨F', h', hs⟩ := stars_pick hp h2
  exact (rowR.rd h').mv fun k _ hk => ⟨rfl, fun h1 => hd k h1 (hs k hk)⟩
theorem RdRow.of_blk {w : World} {F : Nat → Prop} {g T o n size : Nat} {cs xs : List Value} (h : (blk g T cs).on w F) (hx : (cs.drop o).take (n * size) = xs) (hl : xs.length = n * size) (hn : n ≤ maxLen) : RdRow w F size (some ⟨g, o, none⟩) n xs := by
  refine ⟨hl, hn, fun _ => ⟨g, o, rfl, (h.1 g).2 rfl, (blk g T cs).lt h g ((h.1 g).2 rfl), fun j v hj => ?_⟩⟩
  rw [cell_blk h]
  rw [← hx, List.getElem?_take] at hj
  split at hj
  · rwa [List.getElem?_drop] at hj
  · cases hj
theorem rd_blk {L L' : List Res} {w : World} {F1 F2 : Nat → Prop} {g T o n size : Nat} {cs xs : List Value} (h2 : stars L w F2) (hd : ∀ k, F1 k → ¬ F2 k) (hp : Pick L (blk g T cs) L') (hx : (cs.drop o).take (n * size) = xs) (hl : xs.length = n * size) (hn : n ≤ maxLen) :
    RdRow w (fun k => ¬ F1 k) size (some ⟨g, o, none⟩) n xs := by
  obtain ⟨F', h', hs⟩ := stars_pick hp h2
  exact (RdRow.of_blk h' hx hl hn).mv fun k _ hk => ⟨rfl, fun h1 => hd k h1 (hs k hk)⟩

/-! ### Literals -/
def fillL (place : Nat → Option (Nat × Nat)) : List Value → List (Nat × Value) → Option (List Value)
  | cs, [] => some cs
  | cs, (i, v) :: r => match place i with
    | none => none
    | some (o, s) => if v.cells.toList.length = s ∧ o + v.cells.toList.length ≤ cs.length then fillL place (updL cs o v.cells.toList) r else none
theorem foldl_set (cs : Array Value) (o : Nat) : ∀ (l : List Value) (k : Nat) (m : Array Value), o + k + l.length ≤ m.size →
    ((l.zipIdx k).foldl (fun m p => m.setIfInBounds (o + p.2) p.1) m).toList = updL m.toList (o + k) l
  | [], k, m, _ => by simp [updL]
  | v :: r, k, m, h => by
    simp only [List.length_cons] at h
    simp only [List.zipIdx_cons, List.foldl_cons]
    rw [foldl_set cs o r (k + 1) _ (by simp; omega), updL_cons (by simp; omega)]
    simp [Nat.add_assoc]
theorem fill_of (place : Nat → Option (Nat × Nat)) : ∀ (parts : List (Nat × Value)) (cs : Array Value) (out : List Value), fillL place cs.toList parts = some out → Instr.fill place cs parts = some out.toArray
  | [], cs, out, h => by simp [fillL] at h; subst h; simp [Instr.fill]
  | (i, v) :: r, cs, out, h => by
    simp only [fillL] at h
    cases hp : place i with
    | none => simp [hp] at h
    | some p =>
      obtain ⟨o, s⟩ := p
      simp only [hp] at h
      split at h
      · rename_i hh
        obtain ⟨h1, h2⟩ := hh
        have hs : v.cells.size = s := by simpa using h1
        have hl : ¬ (o + v.cells.size > cs.size) := by simp at h2 ⊢; omega
        have := foldl_set cs o v.cells.toList 0 cs (by simp at h2 ⊢; omega)
        simp only [Nat.add_zero] at this
        simp only [Instr.fill, hp, hs, ne_eq, not_true_eq_false, false_or]
        rw [if_neg (by simp at hl ⊢; omega)]
        refine fill_of place r _ out ?_
        rw [← h]
        congr 1
        rw [← this, ← Array.foldl_toList, Array.toList_zipIdx]
      · cases h
theorem run_mapM_places {P : Program} {w : World} : ∀ (fs : List Field) (pl : List (Nat × Nat)), (fs.mapM fun f => (szT P f.type).map fun s => (f.offset, s)) = some pl →
    (fs.mapM (m := Sem) fun f => (fun s => (f.offset, s)) <$> sizeOf f.type).run P w = .ok pl w
  | [], pl, h => by simp at h; subst h; simp
  | f :: r, pl, h => by
    simp only [List.mapM_cons, Option.bind_eq_bind, Option.pure_def] at h
    cases hs : szT P f.type with
    | none => simp [hs] at h
    | some s =>
      cases hr : (r.mapM fun f => (szT P f.type).map fun s => (f.offset, s)) with
      | none => simp [hs, hr] at h
      | some q =>
        simp [hs, hr] at h
        subst h
        have ih := run_mapM_places (P := P) (w := w) r q hr
        simp only [List.mapM_cons, Sem.run_bind, Sem.run_map, run_sz hs, Result.andThen_ok, ih, Sem.run_pure]

section lits
variable {P : Program} {w0 : World} {F0 : Nat → Prop} {L : List Res} {Q : Exit → Act → World → Prop} {n : Fm} {env : Env} {ops : Array Oper} {rest : List Oper}
variable {d : Option Tmp} {ty : TypeId} {pos : String} {af : Array Edge} {gd : Option (Nat × Bool)}

theorem r_build {T : TypeId} {parts : Array (Nat × Operand)} {zs cs : List Value} {pl : List (Nat × Nat)} (hz : zcT P T = some zs) (hp : placesT P T = some pl)
    (hf : fillL (pl[·]?) zs (parts.toList.map fun p => (p.1, ev n env p.2)) = some cs) : Runs P w0 F0 L n env ⟨d, .build T parts, ty, pos, af, gd⟩ (.agg cs.toArray) := fun w _ => by
  obtain ⟨z, hz', hc⟩ := zcT_some hz
  unfold placesT at hp
  cases hu : P.underlying T with
  | none => simp [hu] at hp
  | some dsc =>
    cases dsc <;> simp [hu] at hp
    rename_i fs
    have hm := run_mapM_places (P := P) (w := w) fs.toList pl hp
    have hf' : Instr.fill (pl.toArray[·]?) z.cells (parts.toList.map fun p => (p.1, ev n env p.2)) = some cs.toArray := fill_of _ _ _ _ (by rw [hc]; simpa using hf)
    simp only [execOp, Instr.build, Sem.run_bind, run_zeroT hz', Result.andThen_ok, run_underlying hu]
    rw [show (fs.mapM (m := Sem) fun f => do pure (f.offset, ← sizeOf f.type)) = List.toArray <$> (fs.toList.mapM (m := Sem) fun f => (fun s => (f.offset, s)) <$> sizeOf f.type) from by
      rw [Array.mapM_eq_mapM_toList]; simp]
    have hcomp : (parts.map fun (i, x) => (i, ev n env x)).toList = parts.toList.map fun p => (p.1, ev n env p.2) := by simp
    simp only [Sem.run_map, hm, Result.andThen_ok, hcomp, hf']
    rfl
theorem gl_bslice {t : Tmp} {T e s len : Nat} {parts : Array (Nat × Operand)} {z : List Value} {cs : List Value} (hw : Wt ops n env ⟨some t, .buildSlice T len parts, ty, pos, af, gd⟩ true)
    (ht : sliceT P T = some e) (hs : szT P e = some s) (hl : len * s ≤ 16777216) (hl0 : len ≤ 16777216) (hpos : 0 < len * s) (hz : zcT P e = some z)
    (hf : fillL (fun i => some (i * s, s)) ((List.range (len * s)).map fun i => z.toArray[i % z.length]!) (parts.toList.map fun p => (p.1, ev n env p.2)) = some cs) (hcl : cs.length = len * s)
    (k : ∀ b, Gl P w0 F0 (rowR e s (some ⟨b, 0, none⟩) len len cs :: L) ops Q rest n ((t, .slice (some ⟨b, 0, none⟩) len len) :: env)) : Gl P w0 F0 L ops Q (⟨some t, .buildSlice T len parts, ty, pos, af, gd⟩ :: rest) n env := by
  refine gl_effx (α := Nat) (L' := fun b => rowR e s (some ⟨b, 0, none⟩) len len cs :: L) (v := fun b => .slice (some ⟨b, 0, none⟩) len len) hw (fun w hst => ?_) k
  obtain ⟨zv, hz', hc⟩ := zcT_some hz
  have hfill : Instr.fill (fun i => some (i * s, s)) ((Array.range (len * s)).map fun i => zv.cells[i % zv.cells.size]!) (parts.toList.map fun p => (p.1, ev n env p.2)) = some cs.toArray := by
    refine fill_of _ _ _ _ ?_
    rw [← hf]
    congr 1
    subst hc
    simp
  refine ⟨w.heap.size, { w with heap := w.heap.push (.cells cs.toArray e) }, ?_, ?_⟩
  · simp only [execOp, Instr.buildSlice, Sem.run_bind, run_underlying (run_sliceT ht), Result.andThen_ok, run_sz hs]
    have hlim : ¬ (16777216 < len * s) := by omega
    have h0 : ¬ (len * s = 0) := by omega
    have hcomp : (parts.map fun (i, x) => (i, ev n env x)).toList = parts.toList.map fun p => (p.1, ev n env p.2) := by simp
    rw [if_neg (by omega), if_neg h0]
    simp only [Sem.run_bind, run_zeroT hz', Result.andThen_ok, Sem.run_pure, hcomp, hfill, newRow, newObj, Sem.run, Sem.run_map]
  · refine hst.newRow (w' := { w with heap := w.heap.push (.cells cs.toArray e) }) (fz := (0, 0)) rfl rfl rfl rfl (fun j _ h => by simp at h) (by rw [← hcl]; simp) (Nat.le_refl _) ?_ (by simp; omega)
    simp only [maxLen]; omega
theorem gl_bslice0 {t : Tmp} {T e s : Nat} (hw : Wt ops n env ⟨some t, .buildSlice T 0 #[], ty, pos, af, gd⟩ true) (ht : sliceT P T = some e) (hs : szT P e = some s)
    (k : ∀ b, Gl P w0 F0 (rowR e s (some ⟨b, 0, none⟩) 0 0 [] :: L) ops Q rest n ((t, .slice (some ⟨b, 0, none⟩) 0 0) :: env)) : Gl P w0 F0 L ops Q (⟨some t, .buildSlice T 0 #[], ty, pos, af, gd⟩ :: rest) n env := by
  refine gl_effx (α := Nat) (L' := fun b => rowR e s (some ⟨b, 0, none⟩) 0 0 [] :: L) (v := fun b => .slice (some ⟨b, 0, none⟩) 0 0) hw (fun w hst => ?_) k
  refine ⟨w.heap.size, { w with heap := w.heap.push (.cells #[] e) }, ?_, hst.newRow (w' := { w with heap := w.heap.push (.cells #[] e) }) (fz := (0, 0)) rfl rfl rfl rfl (fun j _ h => by simp at h) (by simp) (Nat.le_refl _) (by simp [maxLen]) (by simp)⟩
  simp [execOp, Instr.buildSlice, run_underlying (run_sliceT ht), run_sz hs, Instr.fill, newRow, newObj, Sem.run]
  rw [show Array.map (fun _ : Nat => (default : Value)) (Array.range 0) = #[] from Array.eq_empty_of_size_eq_zero (by simp)]

/-! ### Calls of function values -/
theorem e_callv {x : Operand} {f : FuncId} {xs : List Operand} {ts : Array TypeId} {vs us : List Value} (hx : ev n env x = .func (.func f) #[] us.toArray) (hf : okCall P f = true) (hv : xs.map (ev n env) ++ us = vs) (w : World) :
    (execOp (ev n env) ⟨d, .call ⟨.value x, xs.toArray, ts⟩, ty, pos, af, gd⟩).run P w = .ok (.enter f vs.toArray) w := by
  subst hv
  unfold okCall at hf
  cases hp : P.funcs[f]? with
  | none => simp [hp] at hf
  | some fn =>
    cases hb : fn.body with
    | none => simp [hp, hb] at hf
    | some c =>
      have hn : ¬ fn.name = "runtime.NumGoroutine" := by simpa [hp, hb] using hf
      simp [execOp, resolve, hx, Deferred.ofValue, invoke, callFunc, program, Sem.run, hp, hb, hn]
end lits
end Go.Proofs.YtobjojeliibinaaGreatDoor

/- The engine, part G: short forms of the rules that walks use most. -/
namespace Go.Proofs.YtobjojeliibinaaGreatDoor
open Go
set_option linter.unusedVariables false
set_option linter.unusedSimpArgs false

theorem updL_all {cs vs : List Value} (h : cs.length = vs.length) : updL cs 0 vs = vs := by
  simp [updL, h]
theorem updL_mid {xs0 cs vs : List Value} (h : vs.length ≤ cs.length) : updL (xs0 ++ cs) xs0.length vs = xs0 ++ vs ++ cs.drop vs.length := by
  simp only [updL]
  rw [List.take_left' rfl, ← List.append_assoc, List.drop_append, List.drop_eq_nil_of_le (by omega), List.nil_append]
  congr 2; omega
/-- Elements laid in a row, one behind the other. -/
theorem fillL_row (s : Nat) : ∀ (vs : List Value) (css : List (List Value)) (k : Nat) (done base : List Value), done.length = k * s → base.length = vs.length * s → vs.map (fun v => v.cells.toList) = css → (∀ c ∈ css, c.length = s) →
    fillL (fun i => some (i * s, s)) (done ++ base) ((List.range' k vs.length).zip vs) = some (done ++ css.flatten)
  | [], css, k, done, base, _, hb, hc, _ => by
    simp at hc; subst hc
    have : base = [] := List.eq_nil_of_length_eq_zero (by simpa using hb)
    subst this
    simp [fillL]
  | v :: r, css, k, done, base, hd, hb, hc, hs => by
    cases css with
    | nil => simp at hc
    | cons c css =>
      simp only [List.map_cons, List.cons.injEq] at hc
      obtain ⟨h1, h2⟩ := hc
      have hcs : c.length = s := hs c (by simp)
      simp only [List.length_cons, Nat.add_mul, Nat.one_mul] at hb
      simp only [List.length_cons, List.range'_succ, List.zip_cons_cons, fillL]
      rw [if_pos ⟨by rw [h1]; exact hcs, by rw [h1, List.length_append, hd, hcs]; omega⟩, h1, ← hd, updL_mid (by omega)]
      have ih := fillL_row s r css (k + 1) (done ++ c) (base.drop c.length) (by rw [List.length_append, hd, hcs, Nat.add_mul, Nat.one_mul]) (by rw [List.length_drop]; omega) h2 (fun c' hc' => hs c' (by simp [hc']))
      rw [ih]
      simp

theorem drop_q {q r : List Value} {m k : Nat} (hq : q.length = m) (h : m ≤ k) : List.drop k (q ++ r) = List.drop (k - m) r := by
  rw [List.drop_append, List.drop_eq_nil_of_le (by omega), hq]; rfl
theorem drop_q' {q : List Value} {m k : Nat} (hq : q.length = m) (h : m ≤ k) : List.drop k q = [] := List.drop_eq_nil_of_le (by omega)
theorem take_q {q r : List Value} {m k : Nat} (hq : q.length = m) (h : m ≤ k) : List.take k (q ++ r) = q ++ List.take (k - m) r := by
  rw [List.take_append, List.take_of_length_le (by omega), hq]
theorem take_q' {q : List Value} {m k : Nat} (hq : q.length = m) (h : m ≤ k) : List.take k q = q := List.take_of_length_le (by omega)
theorem get_q {q r : List Value} {m k : Nat} (hq : q.length = m) (h : m ≤ k) : (q ++ r)[k]? = r[k - m]? := by
  rw [List.getElem?_append_right (by omega), hq]
theorem seg_all {cs : List Value} {m : Nat} (h : cs.length = m) : (cs.drop 0).take m = cs := by rw [List.drop_zero, ← h, List.take_length]

section short
variable {P : Program} {w0 : World} {F0 : Nat → Prop} {L : List Res} {Q : Exit → Act → World → Prop} {n : Fm} {env : Env} {ops : Array Oper} {rest : List Oper}
variable {d : Option Tmp} {ty : TypeId} {pos : String} {af : Array Edge} {gd : Option (Nat × Bool)}

theorem r_val {o : Oper} {v v' : Value} (h : Runs P w0 F0 L n env o v) (e : v = v') : Runs P w0 F0 L n env o v' := e ▸ h
theorem r_bool {o : Oper} {b c : Bool} (h : Runs P w0 F0 L n env o (.bool b)) (e : b = c) : Runs P w0 F0 L n env o (.bool c) := e ▸ h
theorem r_makeF {f : Fn} {cs : List Operand} {us : List Value} (hc : cs.map (ev n env) = us) : Runs P w0 F0 L n env ⟨d, .makeFunc f #[] cs.toArray, ty, pos, af, gd⟩ (.func f #[] us.toArray) := fun w _ => by
  subst hc; simp [execOp, Instr.makeFunc]
theorem r_int {o : Oper} {k : IntKind} {i j : Int} (h : Runs P w0 F0 L n env o (.int k i)) (e : i = j) : Runs P w0 F0 L n env o (.int k j) := e ▸ h
theorem wtgT {o : Oper} {j t : Nat} {b : Bool} (h : o.guard = some (j, b)) (hd : (ops[j]?).bind (·.dst) = some t) (ht : Nat.blt t n.nt = true) (hv : Env.get env t = .bool b) : Wt ops n env o true := by
  have := wtg h hd ht hv; rwa [beq_self_eq_true] at this
theorem wtgF {o : Oper} {j t : Nat} {b c : Bool} (h : o.guard = some (j, b)) (hd : (ops[j]?).bind (·.dst) = some t) (ht : Nat.blt t n.nt = true) (hv : Env.get env t = .bool c) (hne : (c == b) = false) : Wt ops n env o false := by
  have := wtg h hd ht hv; rwa [hne] at this
theorem wtu {o : Oper} {j t : Nat} {b : Bool} (h : o.guard = some (j, b)) (hd : (ops[j]?).bind (·.dst) = some t) (ht : Nat.blt t n.nt = true) (hv : Env.get env t = undef) : Wt ops n env o false := by
  simp [Wt, Region.wanted, h, yielded, hd, fr_get? ht hv, undef]

theorem gl_bsl {t : Tmp} {T e s len : Nat} {parts : Array (Nat × Operand)} {vs : List Value} {css : List (List Value)} {cs : List Value} {z : List Value} (hw : Wt ops n env ⟨some t, .buildSlice T len parts, ty, pos, af, gd⟩ true)
    (ht : sliceT P T = some e) (hs : szT P e = some s) (hz : zcT P e = some z) (hp : parts.toList.map (fun p => (p.1, ev n env p.2)) = (List.range' 0 vs.length).zip vs) (hlen : vs.length = len) (hl : Nat.ble (len * s) 16777216 = true) (hl0 : Nat.ble len 16777216 = true) (hpos : Nat.blt 0 (len * s) = true)
    (hv : vs.map (fun v => v.cells.toList) = css) (hc : ∀ c ∈ css, c.length = s) (hcs : css.flatten = cs)
    (k : ∀ b, Gl P w0 F0 (rowR e s (some ⟨b, 0, none⟩) len len cs :: L) ops Q rest n ((t, .slice (some ⟨b, 0, none⟩) len len) :: env)) : Gl P w0 F0 L ops Q (⟨some t, .buildSlice T len parts, ty, pos, af, gd⟩ :: rest) n env := by
  have hflat : css.flatten.length = len * s := by
    have : ∀ (l : List (List Value)), (∀ c ∈ l, c.length = s) → l.flatten.length = l.length * s := by
      intro l
      induction l with
      | nil => simp
      | cons c l ih =>
        intro h
        rw [List.flatten_cons, List.length_append, ih (fun c' hc' => h c' (by simp [hc'])), h c (by simp), List.length_cons, Nat.add_mul, Nat.one_mul, Nat.add_comm]
    rw [this css hc, ← hlen, ← hv, List.length_map]
  rw [Nat.blt_eq] at hpos
  refine gl_bslice (cs := cs) hw ht hs (Nat.le_of_ble_eq_true hl) (Nat.le_of_ble_eq_true hl0) hpos hz ?_ (by rw [← hcs]; exact hflat) k
  rw [hp, ← hcs]
  have := fillL_row s vs css 0 [] ((List.range (len * s)).map fun i => z.toArray[i % z.length]!) (by simp) (by simp [hlen]) hv hc
  simpa using this
/-- One element of one cell. -/
theorem gl_bsl1 {t : Tmp} {T e : Nat} {x : Operand} {v : Value} {z : List Value} (hw : Wt ops n env ⟨some t, .buildSlice T 1 #[(0, x)], ty, pos, af, gd⟩ true) (ht : sliceT P T = some e) (hs : szT P e = some 1) (hz : zcT P e = some z)
    (hx : ev n env x = v) (h1 : v.oneCell' = true)
    (k : ∀ b, Gl P w0 F0 (rowR e 1 (some ⟨b, 0, none⟩) 1 1 [v] :: L) ops Q rest n ((t, .slice (some ⟨b, 0, none⟩) 1 1) :: env)) : Gl P w0 F0 L ops Q (⟨some t, .buildSlice T 1 #[(0, x)], ty, pos, af, gd⟩ :: rest) n env :=
  gl_bsl (vs := [v]) (css := [[v]]) hw ht hs hz (by simp [hx]) rfl rfl rfl rfl (by cases v <;> first | rfl | (simp [Value.oneCell'] at h1)) (by simp) (by simp) k
/-- One element of several cells. -/
theorem gl_bslN {t : Tmp} {T e s : Nat} {x : Operand} {cs : List Value} {z : List Value} (hw : Wt ops n env ⟨some t, .buildSlice T 1 #[(0, x)], ty, pos, af, gd⟩ true) (ht : sliceT P T = some e) (hs : szT P e = some s) (hz : zcT P e = some z)
    (hx : ev n env x = .agg cs.toArray) (hl : cs.length = s) (hb : Nat.ble (1 * s) 16777216 = true) (hp : Nat.blt 0 (1 * s) = true)
    (k : ∀ b, Gl P w0 F0 (rowR e s (some ⟨b, 0, none⟩) 1 1 cs :: L) ops Q rest n ((t, .slice (some ⟨b, 0, none⟩) 1 1) :: env)) : Gl P w0 F0 L ops Q (⟨some t, .buildSlice T 1 #[(0, x)], ty, pos, af, gd⟩ :: rest) n env :=
  gl_bsl (vs := [.agg cs.toArray]) (css := [cs]) hw ht hs hz (by simp [hx]) rfl hb rfl hp (by simp [Value.cells]) (by simpa using hl) (by simp) k
/-- Several elements of one cell each. -/
theorem gl_bsls {t : Tmp} {T e len : Nat} {parts : Array (Nat × Operand)} {vs : List Value} {z : List Value} (hw : Wt ops n env ⟨some t, .buildSlice T len parts, ty, pos, af, gd⟩ true) (ht : sliceT P T = some e) (hs : szT P e = some 1) (hz : zcT P e = some z)
    (hp : parts.toList.map (fun p => (p.1, ev n env p.2)) = (List.range' 0 vs.length).zip vs) (hlen : vs.length = len) (h1 : ∀ v ∈ vs, v.oneCell' = true) (hb : Nat.ble (len * 1) 16777216 = true) (hb' : Nat.ble len 16777216 = true) (hpos : Nat.blt 0 (len * 1) = true)
    (k : ∀ b, Gl P w0 F0 (rowR e 1 (some ⟨b, 0, none⟩) len len vs :: L) ops Q rest n ((t, .slice (some ⟨b, 0, none⟩) len len) :: env)) : Gl P w0 F0 L ops Q (⟨some t, .buildSlice T len parts, ty, pos, af, gd⟩ :: rest) n env :=
  gl_bsl (vs := vs) (css := vs.map fun v => [v]) hw ht hs hz hp hlen hb hb' hpos (List.map_congr_left fun v hv => by have := h1 v hv; cases v <;> first | rfl | (simp [Value.oneCell'] at this)) (by simp) (by
    clear hp hlen h1 k
    induction vs with
    | nil => rfl
    | cons v r ih => simp [ih]) k
theorem r_ldNo {x : Operand} {T g o m : Nat} {seg : List Value} (hx : ev n env x = .pointer (some ⟨g, o, none⟩)) (hr : rowT P T = some true) (hs : szT P T = some m) (hg : w0.rangeAt g o seg) (hl : seg.length = m) (hp : 0 < m) (hn : ¬ F0 g) :
    Runs P w0 F0 L n env ⟨d, .load T x, ty, pos, af, gd⟩ (.agg seg.toArray) := r_load hx fun w ⟨F, hF, hst⟩ => by
  refine run_loadVar_agg hr hs hl fun j v hj => ?_
  have h0 := hg j v hj
  rw [World.cell?_of_block (hst.old (World.block_lt_of_cell? w0 _ h0) hn).1]; exact h0
theorem r_eqnil_sl {x : Operand} {T T' e : TypeId} {a : Option Addr} {m c : Nat} (hx : ev n env x = .slice a m c) (ht : sliceT P T = some e) : Runs P w0 F0 L n env ⟨d, .binOp .eql T x (.const (.slice none 0 0)) T', ty, pos, af, gd⟩ (.bool a.isNone) := fun w _ => by
  have h : ∀ k : Nat, (Op.equalIn (k + 1) T (.slice a m c) (.slice none 0 0)).run P w = .ok a.isNone w := fun k => by
    cases a <;> simp [Op.equalIn, run_underlying (run_sliceT ht)]
  have hc : ev n env (.const (.slice none 0 0)) = .slice none 0 0 := rfl
  simp [execOp, hx, hc, eqGuard, binOp, Op.equal, Op.maxDepth, h 9999]
theorem gc_pure1 {c : Code} {p : Prop} {L' : List Res} (hp : Pick L (pureR p) L') (k : p → Gc P w0 F0 L c Q n env) : Gc P w0 F0 L c Q n env := fun w hw => by
  have hw' := hw
  obtain ⟨F, hF, _⟩ := hw'
  obtain ⟨F1, h1, _⟩ := stars_pick hp hF
  exact k h1.2 w hw
theorem gc_regionS {id : Nat} {l : List Oper} (hm : P.follows .mixedOrders = true) (hB : Region.lexB .any l.toArray = true)
    (h : Gs P w0 F0 L l.toArray l n env (fun env' => Gx w0 F0 L Q .normal n env')) : Gc P w0 F0 L (.region id l.toArray true) Q n env := fun w hw => by
  refine wpIn_region_S hm hB ?_
  have hw' := hw.drawn (w.drawn + 1)
  refine wpStill_mono' (fun a ⟨env', ha, hC⟩ => ?_) (h _ hw')
  subst ha
  exact hC _ hw'
end short
end Go.Proofs.YtobjojeliibinaaGreatDoor

/- The engine, part H: words of 32 bits, elements of array values, loads out of rows that are owned. -/
namespace Go.Proofs.YtobjojeliibinaaGreatDoor
open Go
set_option linter.unusedVariables false
set_option linter.unusedSimpArgs false

def W32 (x : UInt32) : Value := .int .u32 (x.toNat : Int)
theorem u32_wrap (i : Int) : IntKind.u32.wrap i = i % 4294967296 := by simp [IntKind.wrap, IntKind.bits, IntKind.signed]
theorem w_add (a b : UInt32) : IntKind.u32.wrap ((a.toNat : Int) + b.toNat) = ((a + b).toNat : Int) := by
  rw [u32_wrap, UInt32.toNat_add]; omega
theorem w_bv (a : UInt32) : BitVec.ofInt IntKind.u32.bits (a.toNat : Int) = a.toBitVec := by
  show BitVec.ofInt 32 ((a.toNat : Nat) : Int) = a.toBitVec
  rw [BitVec.ofInt_natCast]; exact BitVec.eq_of_toNat_eq (by have := a.toNat_lt; rw [BitVec.toNat_ofNat]; exact Nat.mod_eq_of_lt this)
theorem w_back (x : BitVec 32) : IntKind.u32.wrap (x.toNat : Int) = (x.toNat : Int) := by
  have := x.isLt; rw [u32_wrap]; omega
theorem w_and (a b : UInt32) : bitop .and .u32 (a.toNat : Int) (b.toNat : Int) = ((a &&& b).toNat : Int) := by
  simp only [bitop, w_bv]; exact w_back (a.toBitVec &&& b.toBitVec)
theorem w_or (a b : UInt32) : bitop .or .u32 (a.toNat : Int) (b.toNat : Int) = ((a ||| b).toNat : Int) := by
  simp only [bitop, w_bv]; exact w_back (a.toBitVec ||| b.toBitVec)
theorem w_xor (a b : UInt32) : bitop .xor .u32 (a.toNat : Int) (b.toNat : Int) = ((a ^^^ b).toNat : Int) := by
  simp only [bitop, w_bv]; exact w_back (a.toBitVec ^^^ b.toBitVec)
theorem w_not (a : UInt32) : bitop .xor .u32 4294967295 (a.toNat : Int) = ((~~~a).toNat : Int) := by
  have e : BitVec.ofInt IntKind.u32.bits 4294967295 = BitVec.allOnes 32 := rfl
  simp only [bitop, w_bv, e]
  have h : BitVec.allOnes 32 ^^^ a.toBitVec = ~~~a.toBitVec := by rw [BitVec.allOnes_xor]
  exact (congrArg (fun x : BitVec 32 => IntKind.u32.wrap (x.toNat : Int)) h).trans (w_back (~~~a.toBitVec))
theorem ofNat_small {j : Nat} (h : j < 32) : (UInt32.ofNat j).toNat = j := by
  rw [UInt32.toNat_ofNat']; omega
theorem w_shl (a : UInt32) {j : Nat} (h : j < 32) : IntKind.u32.wrap ((a.toNat : Int) * 2 ^ (min (j : Int).toNat IntKind.u32.bits)) = ((a <<< UInt32.ofNat j).toNat : Int) := by
  have e : min (j : Int).toNat IntKind.u32.bits = j := by simp only [IntKind.bits]; omega
  rw [e, u32_wrap, UInt32.toNat_shiftLeft, ofNat_small h, Nat.mod_eq_of_lt h, Nat.shiftLeft_eq, Int.natCast_emod, Int.natCast_mul, Int.natCast_pow]
  rfl
theorem w_shr (a : UInt32) {j : Nat} (h : j < 32) : (a.toNat : Int).fdiv (2 ^ (min (j : Int).toNat IntKind.u32.bits)) = ((a >>> UInt32.ofNat j).toNat : Int) := by
  have e : min (j : Int).toNat IntKind.u32.bits = j := by simp only [IntKind.bits]; omega
  rw [e, UInt32.toNat_shiftRight, ofNat_small h, Nat.mod_eq_of_lt h, Nat.shiftRight_eq_div_pow, Int.fdiv_eq_ediv_of_nonneg _ (by exact Int.le_of_lt (Int.pow_pos (by omega))), Int.natCast_ediv, Int.natCast_pow]
  rfl

theorem run_part1 {P : Program} {T off : Nat} {cs : List Value} {v : Value} (hr : rowT P T = some false) (hv : cs[off]? = some v) (w : World) : (part T cs.toArray off).run P w = .ok v w := by
  simp [part, run_rowT hr, hv]
section
variable {P : Program} {w0 : World} {F0 : Nat → Prop} {L : List Res} {Q : Exit → Act → World → Prop} {n : Fm} {env : Env} {ops : Array Oper} {rest : List Oper}
variable {d : Option Tmp} {ty : TypeId} {pos : String} {af : Array Edge} {gd : Option (Nat × Bool)}
theorem r_xorU {x : Operand} {T : TypeId} {k : IntKind} {i : Int} (hk : k.signed = false) (hx : ev n env x = .int k i) : Runs P w0 F0 L n env ⟨d, .unOp .xor T x, ty, pos, af, gd⟩ (.int k (bitop .xor k k.max i)) := fun w _ => by
  have e : (Op.unary .xor (.int k i)) = Op.intBits .xor k k.max i := by simp [Op.unary, hk]
  simp only [execOp, hx, e]; rfl
theorem r_addw {T T' : TypeId} {x y : Operand} {a b : UInt32} (hx : ev n env x = W32 a) (hy : ev n env y = W32 b) : Runs P w0 F0 L n env ⟨d, .binOp .add T x y T', ty, pos, af, gd⟩ (W32 (a + b)) := r_int (r_add hx hy) (w_add a b)
theorem r_andw {T T' : TypeId} {x y : Operand} {a b : UInt32} (hx : ev n env x = W32 a) (hy : ev n env y = W32 b) : Runs P w0 F0 L n env ⟨d, .binOp .and T x y T', ty, pos, af, gd⟩ (W32 (a &&& b)) := r_int (r_bits (op := .and) rfl hx hy) (w_and a b)
theorem r_orw {T T' : TypeId} {x y : Operand} {a b : UInt32} (hx : ev n env x = W32 a) (hy : ev n env y = W32 b) : Runs P w0 F0 L n env ⟨d, .binOp .or T x y T', ty, pos, af, gd⟩ (W32 (a ||| b)) := r_int (r_bits (op := .or) rfl hx hy) (w_or a b)
theorem r_xorw {T T' : TypeId} {x y : Operand} {a b : UInt32} (hx : ev n env x = W32 a) (hy : ev n env y = W32 b) : Runs P w0 F0 L n env ⟨d, .binOp .xor T x y T', ty, pos, af, gd⟩ (W32 (a ^^^ b)) := r_int (r_bits (op := .xor) rfl hx hy) (w_xor a b)
theorem r_notw {T : TypeId} {x : Operand} {a : UInt32} (hx : ev n env x = W32 a) : Runs P w0 F0 L n env ⟨d, .unOp .xor T x, ty, pos, af, gd⟩ (W32 (~~~a)) := r_int (r_xorU (k := .u32) rfl hx) (w_not a)
theorem r_shlw {T T' : TypeId} {x y : Operand} {k : IntKind} {a : UInt32} {i : Int} {j : Nat} (hx : ev n env x = W32 a) (hy : ev n env y = .int k i) (hi : i = (j : Int)) (hj : j < 32) : Runs P w0 F0 L n env ⟨d, .binOp .shl T x y T', ty, pos, af, gd⟩ (W32 (a <<< UInt32.ofNat j)) := by
  subst hi; exact r_int (r_shl hx hy (by omega)) (w_shl a hj)
theorem r_shrw {T T' : TypeId} {x y : Operand} {k : IntKind} {a : UInt32} {i : Int} {j : Nat} (hx : ev n env x = W32 a) (hy : ev n env y = .int k i) (hi : i = (j : Int)) (hj : j < 32) : Runs P w0 F0 L n env ⟨d, .binOp .shr T x y T', ty, pos, af, gd⟩ (W32 (a >>> UInt32.ofNat j)) := by
  subst hi; exact r_int (r_shr hx hy (by omega)) (w_shr a hj)
theorem r_conv8w {S T : TypeId} {x : Operand} {b : UInt8} {ds : TypeDesc} (hx : ev n env x = B8 b) (hs : P.underlying S = some ds) (ht : P.underlying T = some (.int .u32)) : Runs P w0 F0 L n env ⟨d, .convert S T x, ty, pos, af, gd⟩ (W32 b.toUInt32) :=
  r_int (r_conv_int hx hs ht) (by have := b.toNat_lt; rw [u32_wrap, UInt8.toNat_toUInt32]; omega)
theorem r_convw8 {S T : TypeId} {x : Operand} {a : UInt32} {ds : TypeDesc} (hx : ev n env x = W32 a) (hs : P.underlying S = some ds) (ht : P.underlying T = some (.int .u8)) : Runs P w0 F0 L n env ⟨d, .convert S T x, ty, pos, af, gd⟩ (B8 a.toUInt8) :=
  r_int (r_conv_int hx hs ht) (by
    have h1 : ∀ m : Int, IntKind.u8.wrap m = m % 256 := fun m => by simp [IntKind.wrap, IntKind.bits, IntKind.signed]
    rw [h1, UInt32.toNat_toUInt8]; omega)
theorem r_index1 {x y : Operand} {T e m s : Nat} {cs : List Value} {k : IntKind} {i : Int} {v : Value} (hx : ev n env x = .agg cs.toArray) (hy : ev n env y = .int k i) (ht : arrT P T = some (m, e)) (hs : szT P e = some s) (hr : rowT P e = some false)
    (h0 : 0 ≤ i) (hm : i < m) (hv : cs[i.toNat * s]? = some v) : Runs P w0 F0 L n env ⟨d, .index T x y, ty, pos, af, gd⟩ v := fun w _ => by
  simp only [execOp, hx, hy, Instr.index, asIntOf, Sem.run_bind, Sem.run_pure, Result.andThen_ok, run_underlying (run_arrT ht)]
  simp [h0, hm, run_sz hs, run_part1 hr hv]
theorem r_buildA {T e m s : Nat} {parts : Array (Nat × Operand)} {zs cs : List Value} (hz : zcT P T = some zs) (ht : arrT P T = some (m, e)) (hs : szT P e = some s)
    (hf : fillL (fun i => some (i * s, s)) zs (parts.toList.map fun p => (p.1, ev n env p.2)) = some cs) : Runs P w0 F0 L n env ⟨d, .build T parts, ty, pos, af, gd⟩ (.agg cs.toArray) := fun w _ => by
  obtain ⟨z, hz', hc⟩ := zcT_some hz
  have hf' : Instr.fill (fun i => some (i * s, s)) z.cells (parts.toList.map fun p => (p.1, ev n env p.2)) = some cs.toArray := fill_of _ _ _ _ (by rw [hc]; exact hf)
  have hcomp : (parts.map fun (i, x) => (i, ev n env x)).toList = parts.toList.map fun p => (p.1, ev n env p.2) := by simp
  simp only [execOp, Instr.build, Sem.run_bind, run_zeroT hz', Result.andThen_ok, run_underlying (run_arrT ht), run_sz hs, hcomp, hf']
  rfl
/-- A cell of a row that is owned. -/
theorem r_ld1r {x : Operand} {T g o i e size m c : Nat} {xs : List Value} {L' : List Res} {v : Value} (hx : ev n env x = .pointer (some ⟨g, o + i, none⟩)) (hr : rowT P T = some false) (hp : Pick L (rowR e size (some ⟨g, o, none⟩) m c xs) L') (hv : xs[i]? = some v) :
    Runs P w0 F0 L n env ⟨d, .load T x, ty, pos, af, gd⟩ v := r_load hx fun w hs => run_loadVar_one hr (by
      have hm : 0 < m := by
        have hl := (hs.row hp).1
        have : i < xs.length := (List.getElem?_eq_some_iff.1 hv).1
        rcases Nat.eq_zero_or_pos m with h0 | h0
        · subst h0; simp at hl; subst hl; simp at this
        · exact h0
      obtain ⟨g', o', ha, _, _, hra⟩ := (hs.row hp).2.2 hm
      cases ha
      exact hra i v hv)
theorem ld_aggS {T g o T' m : Nat} {cs seg : List Value} {L' : List Res} (hr : rowT P T = some true) (hs : szT P T = some m) (hp : Pick L (blk g T' cs) L') (hg : (cs.drop o).take m = seg) (hl : seg.length = m) :
    ∀ w, St w0 F0 L w → (loadVar T ⟨g, o, none⟩).run P w = .ok (.agg seg.toArray) w := fun w hst => run_loadVar_agg hr hs hl fun j v hj => by
  rw [hst.cellOf hp, ← hj, ← hg, List.getElem?_take, List.getElem?_drop]
  rw [if_pos]
  rw [← hl]
  exact (List.getElem?_eq_some_iff.1 hj).1
theorem ld_oneS {T g o T' : Nat} {cs : List Value} {L' : List Res} {v : Value} (hr : rowT P T = some false) (hp : Pick L (blk g T' cs) L') (hv : cs[o]? = some v) :
    ∀ w, St w0 F0 L w → (loadVar T ⟨g, o, none⟩).run P w = .ok v w := fun w hs => run_loadVar_one hr ((hs.cellOf hp o).trans hv)
end

theorem stars_hd {R R' : Res} {L : List Res} {w : World} {F : Nat → Prop} (h : ∀ F, R.on w F → R'.on w F) : stars (R :: L) w F → stars (R' :: L) w F :=
  fun ⟨F1, F2, h1, h2, h3, h4⟩ => ⟨F1, F2, h F1 h1, h2, h3, h4⟩
theorem St.rowLe {w0 w : World} {F0 : Nat → Prop} {L L' : List Res} {e size a m c xs} (hs : St w0 F0 L w) (hp : Pick L (rowR e size a m c xs) L') : m ≤ c ∧ c ≤ maxLen := by
  obtain ⟨F, hF, _⟩ := hs
  obtain ⟨F1, h1, _⟩ := stars_pick hp hF
  exact ⟨h1.2.1, h1.2.2.1⟩
theorem RdRow.cut8 {w : World} {A : Nat → Prop} {n c l h : Nat} {a : Option Addr} {xs : List UInt8} (hr : RdRow w A 1 a n (xs.map B8)) (h1 : l ≤ h) (h2 : h ≤ n) (h3 : n ≤ c) :
    RdRow w A 1 (if c = l then a else a.map (·.add (l * 1))) (h - l) (((xs.drop l).take (h - l)).map B8) := by
  have := hr.cut h1 h2 h3
  rw [Nat.mul_one (h - l), show (List.map B8 xs).drop (l * 1) = (List.map B8 xs).drop l by rw [Nat.mul_one], ← List.map_drop, ← List.map_take] at this
  simpa only [Nat.mul_one] using this
/-- The tail of a row of bytes. -/
theorem stars_tail8 {L : List Res} {w : World} {F : Nat → Prop} {e n c l : Nat} {a : Option Addr} {xs : List UInt8} (hl : l ≤ n) (h : stars (rowR e 1 a n c (xs.map B8) :: L) w F) :
    stars (rowR e 1 (if c = l then a else a.map (·.add (l * 1))) (n - l) (c - l) ((xs.drop l).map B8) :: L) w F := by
  refine stars_hd (fun F hF => ?_) h
  have hlen : n = xs.length := by have := hF.1; simp at this; omega
  have := rowR.cut hF hl (Nat.le_refl n)
  have e1 : ((List.map B8 xs).drop (l * 1)).take ((n - l) * 1) = (xs.drop l).map B8 := by
    rw [Nat.mul_one, Nat.mul_one, ← List.map_drop, List.take_of_length_le (by simp; omega)]
  rwa [e1] at this

/-- Cells that a function lays out. -/
def fnc {α : Type} (V : α → Value) (m : Nat) (f : Nat → α) : List Value := (List.range m).map fun j => V (f j)
theorem fnc_length {α : Type} {V : α → Value} {m : Nat} {f : Nat → α} : (fnc V m f).length = m := by simp [fnc]
theorem fnc_get {α : Type} {V : α → Value} {m j : Nat} {f : Nat → α} (h : j < m) : (fnc V m f)[j]? = some (V (f j)) := by simp [fnc, h]
theorem fnc_one {α : Type} {V : α → Value} (hV : ∀ x, (V x).oneCell' = true) {m : Nat} {f : Nat → α} : ∀ v ∈ fnc V m f, v.oneCell' = true := by
  intro v hv; simp only [fnc, List.mem_map] at hv; obtain ⟨j, _, rfl⟩ := hv; exact hV _
theorem fnc_upd {α : Type} {V : α → Value} {m i : Nat} {f f' : Nat → α} (h : i < m) (h1 : ∀ j, j < m → j ≠ i → f' j = f j) : updL (fnc V m f) i [V (f' i)] = fnc V m f' := by
  apply List.ext_getElem?
  intro j
  simp only [updL, List.length_singleton]
  by_cases hj : j < m
  · rw [fnc_get hj]
    rcases Nat.lt_trichotomy j i with h2 | h2 | h2
    · rw [List.getElem?_append_left (by simp [fnc]; omega), List.getElem?_take, if_pos h2, fnc_get hj, h1 j hj (by omega)]
    · subst h2
      rw [List.getElem?_append_right (by simp [fnc]; omega)]
      simp [fnc, show min j m = j by omega]
    · rw [List.getElem?_append_right (by simp [fnc]; omega), List.getElem?_append_right (by simp [fnc]; omega), List.getElem?_drop]
      have : i + 1 + (j - ((fnc V m f).take i).length - [V (f' i)].length) = j := by simp [fnc]; omega
      rw [this, fnc_get hj, h1 j hj (by omega)]
  · rw [List.getElem?_eq_none (by simp [fnc]; omega), List.getElem?_eq_none (by simp [fnc]; omega)]
theorem fnc_eq {α : Type} {V : α → Value} {m : Nat} {f f' : Nat → α} (h : ∀ j, j < m → f j = f' j) : fnc V m f = fnc V m f' := by
  apply List.map_congr_left; intro j hj; rw [h j (List.mem_range.1 hj)]
theorem fnc_const {α : Type} {V : α → Value} {m : Nat} {x : α} : fnc V m (fun _ => x) = List.replicate m (V x) := by
  apply List.ext_getElem?; intro j; simp [fnc, List.getElem?_replicate]; split <;> simp_all
def pfx {α : Type} (f g : Nat → α) (k j : Nat) : α := if j < k then f j else g j
theorem pfx_zero {α : Type} {V : α → Value} {m : Nat} {f g : Nat → α} : fnc V m (pfx f g 0) = fnc V m g := fnc_eq fun j _ => by simp [pfx]
theorem pfx_full {α : Type} {V : α → Value} {m : Nat} {f g : Nat → α} : fnc V m (pfx f g m) = fnc V m f := fnc_eq fun j h => by simp [pfx, h]
theorem pfx_set {α : Type} {V : α → Value} {m k o : Nat} {f g : Nat → α} {v : Value} (ho : o = k) (hk : k < m) (hv : v = V (f k)) : updL (fnc V m (pfx f g k)) o [v] = fnc V m (pfx f g (k + 1)) := by
  subst ho; subst hv
  have e : f o = pfx f g (o + 1) o := by simp [pfx]
  rw [e]
  exact fnc_upd hk fun j _ hj => by simp only [pfx]; by_cases h : j < o <;> simp [h] <;> (try split) <;> first | rfl | omega
theorem pfx_get {α : Type} {V : α → Value} {m k j o : Nat} {f g : Nat → α} (ho : o = j) (hj : j < k) (hm : j < m) : (fnc V m (pfx f g k))[o]? = some (V (f j)) := by
  subst ho; rw [fnc_get hm]; simp [pfx, hj]
theorem pfx_get2 {α : Type} {V : α → Value} {m k j o : Nat} {f g : Nat → α} (ho : o = j) (hj : k ≤ j) (hm : j < m) : (fnc V m (pfx f g k))[o]? = some (V (g j)) := by
  subst ho; rw [fnc_get hm]; simp [pfx, Nat.not_lt.2 hj]
theorem updL_left {cs tl vs : List Value} {o : Nat} (h : o + vs.length ≤ cs.length) : updL (cs ++ tl) o vs = updL cs o vs ++ tl := by
  simp only [updL]
  rw [List.take_append_of_le_length (by omega), List.drop_append_of_le_length (by omega)]
  simp
theorem get_left {cs tl : List Value} {o : Nat} {v : Value} (h : cs[o]? = some v) : (cs ++ tl)[o]? = some v := by
  rw [List.getElem?_append_left (List.getElem?_eq_some_iff.1 h).1]; exact h
/-- Bytes of a row that is read. -/
theorem cellb {w : World} {g o : Nat} {b : List UInt8} (h : w.rangeAt g o (b.map B8)) {e j : Nat} (he : e = j) (hj : j < b.length) : w.cell? ⟨g, o + e, none⟩ = some (B8 (b.getD j 0)) := by
  subst he
  refine h e _ ?_
  rw [List.getElem?_map, List.getElem?_eq_getElem hj]
  simp [List.getD, List.getElem?_eq_getElem hj]
theorem byte_shrU {m j : Nat} {i : Int} (hi : i = (j : Int)) (hj : 8 * j < 64) : Value.int .u8 (IntKind.u8.wrap ((m : Int).fdiv (2 ^ (min (8 * i).toNat IntKind.u64.bits)))) = B8 (UInt8.ofNat (m / 2 ^ (8 * j))) := by
  subst hi
  have e : min (8 * (j : Int)).toNat IntKind.u64.bits = 8 * j := by simp only [IntKind.bits]; omega
  have h1 : ∀ m : Int, IntKind.u8.wrap m = m % 256 := fun m => by simp [IntKind.wrap, IntKind.bits, IntKind.signed]
  have h2 : (m : Int) / 2 ^ (8 * j) = ((m / 2 ^ (8 * j) : Nat) : Int) := by rw [Int.natCast_ediv, Int.natCast_pow]; rfl
  rw [e, Int.fdiv_eq_ediv_of_nonneg _ (by exact Int.le_of_lt (Int.pow_pos (by omega))), h2]
  simp only [B8, Value.int.injEq, true_and]
  rw [h1, UInt8.toNat_ofNat']; omega
theorem byte_shrI {m : Nat} {j : Nat} {i : Int} (hi : i = (j : Int)) (hj : j < 64) : Value.int .u8 (IntKind.u8.wrap ((m : Int).fdiv (2 ^ (min i.toNat IntKind.i64.bits)))) = B8 (UInt8.ofNat (m / 2 ^ j)) := by
  subst hi
  have e : min (j : Int).toNat IntKind.i64.bits = j := by simp only [IntKind.bits]; omega
  have h1 : ∀ m : Int, IntKind.u8.wrap m = m % 256 := fun m => by simp [IntKind.wrap, IntKind.bits, IntKind.signed]
  have h2 : (m : Int) / 2 ^ j = ((m / 2 ^ j : Nat) : Int) := by rw [Int.natCast_ediv, Int.natCast_pow]; rfl
  rw [e, Int.fdiv_eq_ediv_of_nonneg _ (by exact Int.le_of_lt (Int.pow_pos (by omega))), h2]
  simp only [B8, Value.int.injEq, true_and]
  rw [h1, UInt8.toNat_ofNat']; omega
theorem byte_int {m : Int} : Value.int .u8 (IntKind.u8.wrap m) = B8 (UInt8.ofNat (m % 256).toNat) := by
  have h1 : ∀ m : Int, IntKind.u8.wrap m = m % 256 := fun m => by simp [IntKind.wrap, IntKind.bits, IntKind.signed]
  simp only [B8, Value.int.injEq, true_and]
  rw [h1, UInt8.toNat_ofNat']; omega
theorem rot_and {n : Nat} (h1 : 1 ≤ n) (h2 : n ≤ 31) : bitop .and .u64 (IntKind.u64.wrap (-(n : Int))) 31 = ((32 - n : Nat) : Int) := by
  have h : ∀ m : Fin 31, bitop .and .u64 (IntKind.u64.wrap (-((m.val + 1 : Nat) : Int))) 31 = ((32 - (m.val + 1) : Nat) : Int) := by decide
  have := h ⟨n - 1, by omega⟩
  simp only [show n - 1 + 1 = n by omega] at this
  exact this
end Go.Proofs.YtobjojeliibinaaGreatDoor

/- The engine, part I: digests and strings held against one another, bytes as a string. -/
namespace Go.Proofs.YtobjojeliibinaaGreatDoor
open Go
set_option linter.unusedVariables false
set_option linter.unusedSimpArgs false

theorem run_eqItems8 {P : Program} {e : TypeId} {d : Nat} (he : P.underlying e = some (.int .u8)) (a b : List UInt8) (w : World) : ∀ (is : List Nat), (∀ i ∈ is, i < a.length ∧ i < b.length) →
    (Op.eqItems (d + 1) e 1 (a.map B8).toArray (b.map B8).toArray is).run P w = .ok (is.all fun i => a[i]? == b[i]?) w
  | [], _ => by simp [Op.eqItems]
  | i :: is, h => by
    obtain ⟨h1, h2⟩ := h i (by simp)
    have ih := run_eqItems8 (d := d) he a b w is (fun j hj => h j (by simp [hj]))
    have hr : rowT P e = some false := by simp [rowT, he]
    have p1 := run_part1 (P := P) (T := e) (off := i * 1) (cs := a.map B8) (v := B8 a[i]) hr (by simp [h1]) w
    have p2 := run_part1 (P := P) (T := e) (off := i * 1) (cs := b.map B8) (v := B8 b[i]) hr (by simp [h2]) w
    have p3 : (Op.equalIn (d + 1) e (B8 a[i]) (B8 b[i])).run P w = .ok (a[i] == b[i]) w := by
      rw [show B8 a[i] = .int .u8 (a[i].toNat : Int) from rfl, show B8 b[i] = .int .u8 (b[i].toNat : Int) from rfl, run_equalIn_int w d e .u8 .u8 _ _ he]
      congr 1
      rw [Bool.eq_iff_iff]; simp only [beq_iff_eq]
      exact ⟨fun hh => UInt8.toNat_inj.1 (by omega), fun hh => by rw [hh]⟩
    simp only [Op.eqItems, Sem.run_bind, p1, p2, p3, Result.andThen_ok]
    by_cases hab : a[i] = b[i]
    · simp [hab, ih, h1, h2]
    · simp [hab, h1, h2]
theorem all_range_eq {a b : List UInt8} {n : Nat} (ha : a.length = n) (hb : b.length = n) : ((List.range n).all fun i => a[i]? == b[i]?) = decide (a = b) := by
  rw [Bool.eq_iff_iff, List.all_eq_true]
  simp only [List.mem_range, beq_iff_eq, decide_eq_true_eq]
  refine ⟨fun h => List.ext_getElem? fun i => ?_, fun h i _ => by rw [h]⟩
  by_cases hi : i < n
  · exact h i hi
  · rw [List.getElem?_eq_none (by omega), List.getElem?_eq_none (by omega)]
theorem dig_dec (a b : Dig) : decide (a.l = b.l) = decide (a = b) := by
  by_cases h : a = b
  · simp [h]
  · simp [h]; exact fun e => h (Dig.ext' e)

section
variable {P : Program} {w0 : World} {F0 : Nat → Prop} {L : List Res} {Q : Exit → Act → World → Prop} {n : Fm} {env : Env} {ops : Array Oper} {rest : List Oper}
variable {d : Option Tmp} {ty : TypeId} {pos : String} {af : Array Edge} {gd : Option (Nat × Bool)}
theorem run_equal_dig {T e : TypeId} {w : World} {a b : Dig} (ht : arrT P T = some (16, e)) (he : P.underlying e = some (.int .u8)) (hs : szT P e = some 1) : (Op.equalIn 10000 T (.agg (dc a).toArray) (.agg (dc b).toArray)).run P w = .ok (decide (a = b)) w := by
  cases hi : P.info? e with
  | none => simp [szT, hi] at hs
  | some i =>
    have hz : i.size = 1 := by simpa [szT, hi] using hs
    have hc : P.cellsOf e = 1 := by simp [Program.cellsOf, hi, hz]
    rw [run_equalIn_array w 9999 _ _ (run_arrT ht) hi, hc]
    rw [show dc a = a.l.map B8 from rfl, show dc b = b.l.map B8 from rfl, run_eqItems8 (d := 9998) he a.l b.l w _ (fun i hi => by have := List.mem_range.1 hi; rw [a.h, b.h]; omega), all_range_eq a.h b.h, dig_dec]
theorem r_eql_dig {x y : Operand} {T T' e : TypeId} {a b : Dig} (hx : ev n env x = .agg (dc a).toArray) (hy : ev n env y = .agg (dc b).toArray) (ht : arrT P T = some (16, e)) (he : P.underlying e = some (.int .u8)) (hs : szT P e = some 1) (hg : P.eqGuardType P.depth T = false) :
    Runs P w0 F0 L n env ⟨d, .binOp .eql T x y T', ty, pos, af, gd⟩ (.bool (decide (a = b))) := fun w _ => by
  simp only [execOp, hx, hy, Sem.run_bind, run_eqGuard_agg w _ _ _ _ _ _ hg, Result.andThen_ok, run_eql_struct, run_equal_dig ht he hs, Sem.run_pure]
theorem r_neq_dig {x y : Operand} {T T' e : TypeId} {a b : Dig} (hx : ev n env x = .agg (dc a).toArray) (hy : ev n env y = .agg (dc b).toArray) (ht : arrT P T = some (16, e)) (he : P.underlying e = some (.int .u8)) (hs : szT P e = some 1) (hg : P.eqGuardType P.depth T = false) :
    Runs P w0 F0 L n env ⟨d, .binOp .neq T x y T', ty, pos, af, gd⟩ (.bool (!decide (a = b))) := fun w _ => by
  simp only [execOp, hx, hy, Sem.run_bind, run_eqGuard_agg w _ _ _ _ _ _ hg, Result.andThen_ok, run_neq_struct, run_equal_dig ht he hs, Sem.run_pure]
end
end Go.Proofs.YtobjojeliibinaaGreatDoor

