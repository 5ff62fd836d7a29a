/- The shell, part F: rows of bytes, numbers, bools, as the walks of layer 6 read them. -/
import Derived.Test.YtffkjjakceojfaaDoorTy
import Derived.Test.YtffkjjakceojfaaDoorShA
namespace Go.Proofs.YtffkjjakceojfaaDoor
open Go
set_option linter.unusedVariables false
set_option linter.unusedSimpArgs false
section
variable {H : Type} {enc : TypeId × Value → H} {P : Program} {w : World} {base : Nat} {sp : Nat → Bool} {held : Bool}
abbrev TT : Nat → Prop := fun _ => True
def Int64 (n : Int) : Prop := -9223372036854775808 ≤ n ∧ n ≤ 9223372036854775807
theorem opens_i64 {T : TypeId} (ht : P.underlying T = some (.int .i64)) : Opens enc P w base sp held T (fun cs n => cs = [.int .i64 n] ∧ Int64 n) := fun fuel cs x h => by
  obtain ⟨n, h1, _, h3⟩ := DataW.trod_int ht h
  refine ⟨n, h1, ?_⟩
  simp [Lit.wf, IntKind.min, IntKind.max, IntKind.signed, IntKind.bits] at h3
  unfold Int64; omega
theorem opens_bool {T : TypeId} (ht : P.underlying T = some .bool) : Opens enc P w base sp held T (fun cs b => cs = [.bool b]) := fun fuel cs x h => by
  obtain ⟨b, h1, _⟩ := DataW.trod_bool ht h
  exact ⟨b, h1⟩
theorem rd_rowL {α : Type} {V : α → Value} {A : Nat → Prop} {a : Option Addr} {n : Nat} {l : List α} (h : RdList (fun cs x => cs = [V x]) w A 1 a n l) : RdRow w A 1 a n (l.map V) := by
  obtain ⟨css, h3, h4, h5, h6⟩ := h
  have e1 : css.flatten = l.map V := by
    have : css = l.map fun b => [V b] := by
      apply List.ext_getElem?
      intro i
      rw [List.getElem?_map]
      by_cases hi : i < l.length
      · have a1 : css[i]? = some css[i] := List.getElem?_eq_getElem (by omega)
        have a2 : l[i]? = some l[i] := List.getElem?_eq_getElem hi
        rw [a1, a2, h6 i _ _ a1 a2]; rfl
      · rw [List.getElem?_eq_none (by omega), List.getElem?_eq_none (by omega)]; rfl
    rw [this]
    clear h3 h4 h5 h6 this
    induction l with
    | nil => rfl
    | cons b r ih => simp [ih]
  rw [e1] at h3; exact h3
/-- Cells of a slice whose elements are V of something. -/
def RdRowC {α : Type} (V : α → Value) (w : World) (A : Nat → Prop) (cs : List Value) (l : List α) : Prop := ∃ a n c, cs = [.slice a n c] ∧ n ≤ c ∧ RdRow w A 1 a n (l.map V)
theorem RdRowC.row {α : Type} {V : α → Value} {A : Nat → Prop} {a : Option Addr} {n c : Nat} {l : List α} (h : RdRowC V w A [.slice a n c] l) : RdRow w A 1 a n (l.map V) := by
  obtain ⟨a', n', c', e, _, hr⟩ := h
  injection e with e _
  injection e with e1 e2 e3
  subst e1; subst e2
  exact hr
theorem opens_row {α : Type} {V : α → Value} {T e : TypeId} (ht : sliceT P T = some e) (hs : szT P e = some 1) (he : Opens enc P w base sp held e (fun cs (x : α) => cs = [V x])) : Opens enc P w base sp held T (RdRowC V w TT) := fun fuel cs x h => by
  obtain ⟨l, a, n, c, h1, h2, h3⟩ := opens_slice ht hs (by decide) he fuel cs x h
  exact ⟨l, a, n, c, h1, h2, rd_rowL h3⟩
theorem o_rbytes : Opens enc Tryd.prog w base sp held 32 (RdRowC B8 w TT) := opens_row Ty.sl_32 Ty.sz_5 (opens_byte Ty.un_5)
theorem o_rints : Opens enc Tryd.prog w base sp held 74 (RdRowC (Value.int .i64) w TT) := opens_row Ty.sl_74 Ty.sz_3 (opens_int Ty.un_3)
theorem o_rbools : Opens enc Tryd.prog w base sp held 51 (RdRowC Value.bool w TT) := opens_row Ty.sl_51 Ty.sz_4 (opens_bool Tryd.underlying4)
end
end Go.Proofs.YtffkjjakceojfaaDoor
