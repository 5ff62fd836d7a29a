/- The engine, part T: what the program's tables say of types and functions, as closed questions. -/
import Derived.WalkKit
import Derived.KernelRfl
namespace Go.Proofs.YtffkjjakceojfaaDoor
open Go
set_option linter.unusedVariables false

/-! ### What the tables say of types -/
def szT (P : Program) (T : TypeId) : Option Nat := (P.info? T).map (·.size)
def rowT (P : Program) (T : TypeId) : Option Bool := (P.underlying T).map fun d => match d with | .struct _ | .array _ _ => true | _ => false
def zeroT (P : Program) (T : TypeId) : Option Value := (P.info? T).bind (·.zero)
def sliceT (P : Program) (T : TypeId) : Option TypeId := (P.underlying T).bind fun d => match d with | .slice e => some e | _ => none
def arrT (P : Program) (T : TypeId) : Option (Nat × TypeId) := (P.underlying T).bind fun d => match d with | .array n e => some (n, e) | _ => none
def foff (P : Program) (s f : Nat) : Option Nat := (P.underlying s).bind fun d => match d with
  | .struct fs => (fs[f]?).bind fun x => if (P.info? x.type).map (·.size) = some 0 then none else (P.info? x.type).map fun _ => x.offset
  | _ => none

def okCall (P : Program) (f : FuncId) : Bool := match P.funcs[f]? with
  | some fn => fn.body.isSome && !(fn.name == "runtime.NumGoroutine")
  | none => false

def zcT (P : Program) (T : TypeId) : Option (List Value) := (zeroT P T).map fun z => z.cells.toList
theorem zcT_some {P : Program} {T : TypeId} {cs : List Value} (h : zcT P T = some cs) : ∃ z, zeroT P T = some z ∧ z.cells.toList = cs := by
  unfold zcT at h
  cases hz : zeroT P T with
  | none => simp [hz] at h
  | some z => exact ⟨z, rfl, by simpa [hz] using h⟩
/-- A digest's sixteen zeros. -/
def zD : List Value := List.replicate 16 (.int .u8 0)

/-- The facts on an element's type that append asks. -/
structure ElemT (P : Program) (t e size bytes : Nat) : Prop where
  sl : P.underlying t = some (.slice e)
  info : ∃ i z, P.info? e = some i ∧ i.zero = some z ∧ i.size = size ∧ i.bytes = bytes ∧ z.cells.size = size
  pos : 0 < size
def elemB (P : Program) (t e size bytes : Nat) : Bool :=
  (match P.underlying t with | some (.slice e') => Nat.beq e' e | _ => false) && (match P.info? e with
    | some i => Nat.beq i.size size && Nat.beq i.bytes bytes && (match i.zero with | some z => Nat.beq z.cells.size size | none => false)
    | none => false) && Nat.blt 0 size
theorem elemT_of {P : Program} {t e size bytes : Nat} (h : elemB P t e size bytes = true) : ElemT P t e size bytes := by
  simp only [elemB, Bool.and_eq_true] at h
  obtain ⟨⟨h1, h2⟩, h3⟩ := h
  refine ⟨?_, ?_, by rwa [Nat.blt_eq] at h3⟩
  · cases hu : P.underlying t with
    | none => simp [hu] at h1
    | some dsc =>
      cases dsc <;> simp [hu] at h1
      rw [h1]
  · cases hi : P.info? e with
    | none => simp [hi] at h2
    | some i =>
      simp only [hi, Bool.and_eq_true] at h2
      obtain ⟨⟨h4, h5⟩, h6⟩ := h2
      cases hz : i.zero with
      | none => simp [hz] at h6
      | some z =>
        simp only [hz] at h6
        exact ⟨i, z, rfl, hz, Nat.eq_of_beq_eq_true h4, Nat.eq_of_beq_eq_true h5, Nat.eq_of_beq_eq_true h6⟩

def placesT (P : Program) (T : TypeId) : Option (List (Nat × Nat)) := (P.underlying T).bind fun d => match d with
  | .struct fs => fs.toList.mapM fun f => (szT P f.type).map fun s => (f.offset, s)
  | _ => none
def ifcT (P : Program) (T : TypeId) : Bool := match P.underlying T with | some (.interface _) => true | _ => false
theorem run_ifcT {P : Program} {T : TypeId} (h : ifcT P T = true) : ∃ ms, P.underlying T = some (.interface ms) := by
  unfold ifcT at h
  cases hu : P.underlying T with
  | none => simp [hu] at h
  | some d => cases d <;> simp [hu] at h ⊢

/-! ### The same, found by instance -/
class FO (P : Program) (s f : Nat) (k : outParam Nat) : Prop where h : foff P s f = some k
class SZ (P : Program) (T : Nat) (s : outParam Nat) : Prop where h : szT P T = some s
class RO (P : Program) (T : Nat) : Prop where h : rowT P T = some false
class RA (P : Program) (T : Nat) : Prop where h : rowT P T = some true
class ZC (P : Program) (T : Nat) (cs : outParam (List Value)) : Prop where h : zcT P T = some cs
class SLT (P : Program) (T : Nat) (e : outParam Nat) : Prop where h : sliceT P T = some e
class ART (P : Program) (T : Nat) (m e : outParam Nat) : Prop where h : arrT P T = some (m, e)
class UNT (P : Program) (T : Nat) (d : outParam TypeDesc) : Prop where h : P.underlying T = some d
class PLT (P : Program) (T : Nat) (pl : outParam (List (Nat × Nat))) : Prop where h : placesT P T = some pl
class CLT (P : Program) (f : Nat) : Prop where h : okCall P f = true
class ELT (P : Program) (t : Nat) (e size bytes : outParam Nat) : Prop where h : ElemT P t e size bytes
class IFT (P : Program) (T : Nat) : Prop where h : ifcT P T = true
end Go.Proofs.YtffkjjakceojfaaDoor
