/- The shell, part G: what a row's list of variables gives. -/
import Derived.Test.YtffkjjakceojfaaDoorRows
import Derived.Test.YtffkjjakceojfaaDoorWa
import Derived.Test.YtffkjjakceojfaaDoorShF
import Derived.WalkKit
import Derived.ProofKit
import Derived.Below
import Derived.Carry
import Derived.Lib.LaidTab
import Derived.Stop.LaidErr
namespace Go.Proofs.YtffkjjakceojfaaDoor
open Go
open Go.ChangeShapes Go.WideShapes Go.RowKit
set_option linter.unusedVariables false

theorem own : ownKnob Tryd.prog.godebug = none := by kernel_rfl
theorem laidOut : laidOutB Tryd.prog = true := by kernel_rfl
theorem star : "*" ++ "errors.errorString" = "*errors.errorString" := by decide
theorem err_row (u : TypeId) (h : Tryd.prog.typeName? 3 u = some "*errors.errorString") : u = 139 :=
  typeName_ptr_named (nm := "errors.errorString") (by rw [star]; kernel_rfl) (by kernel_rfl) (by decide) u (by rw [star]; exact h)
theorem laid_err {W : World} {n : String} {text : List UInt8} {r : List (String × DataW Unit)} {g : Nat} (h : laidMet Tryd.prog ((n, .iface "*errors.errorString" (.ptr (.agg [.lit (.string text)]))) :: r) W) (hg : Tryd.prog.globalNamed n = some g) (ht : (Tryd.prog.globals[g]?).map (·.type) = some 26) :
    ∃ (a : Addr) (s : ByteArray), W.cell? ⟨g, 0, none⟩ = some (.iface 139 (.pointer (some a))) ∧ W.cell? a = some (.string s) ∧ s.data.toList = text := by
  obtain ⟨ms, hi⟩ := run_ifcT (P := Tryd.prog) (T := 26) (by kernel_rfl)
  obtain ⟨a, s, h1, h2, h3, _⟩ := laid_sentinel h hg ht hi err_row Tryd.underlying139 Tryd.underlying163 rfl rfl Tryd.underlying9 (by kernel_rfl) (by kernel_rfl)
  exact ⟨a, s, by simpa using World.var?_cell hg h1 0, h2, h3⟩
theorem agg_of_len {v : Value} {n : Nat} (h : v.cells.toList.length = n) (hn : n ≠ 1) : v = .agg v.cells.toList.toArray := by
  cases v <;> first | (simp [Value.cells] at h; exact absurd h.symm hn) | simp [Value.cells]
theorem still_id {w : World} : Still w (fun _ => True) w (fun k => ¬ (fun _ : Nat => False) k) := fun k _ _ => ⟨rfl, id⟩
theorem no_res {w : World} : stars [] w (fun _ => False) := fun _ h => h
theorem below_of {W W' : World} {L : List Res} (h : St W (fun _ => False) L W') : Below W.heap.size W W' := by
  obtain ⟨F, _, hst⟩ := h
  exact ⟨hst.os, hst.tape, hst.output, hst.size, fun k hk => hst.block k hk (fun h => h)⟩
noncomputable def lowB : Nat := (World.holding Tryd.prog default ⟨#[], #[], []⟩).heap.size
end Go.Proofs.YtffkjjakceojfaaDoor
