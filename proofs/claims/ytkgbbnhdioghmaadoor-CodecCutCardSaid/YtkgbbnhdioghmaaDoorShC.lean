/- The shell, part C: what a row's list of variables gives. -/
import Derived.Test.YtkgbbnhdioghmaaDoorRows
import Derived.Test.YtkgbbnhdioghmaaDoorHa
import Derived.Test.YtkgbbnhdioghmaaDoorWb
import Derived.Test.YtkgbbnhdioghmaaDoorShB
import Derived.WalkKit
import Derived.ProofKit
import Derived.Below
import Derived.Carry
import Derived.Lib.LaidTab
import Derived.Stop.LaidErr
namespace Go.Proofs.YtkgbbnhdioghmaaDoor
open Go
open Go.ChangeShapes Go.WideShapes Go.RowKit
set_option linter.unusedVariables false

theorem own : ownKnob Tryd.prog.godebug = none := by kernel_rfl
theorem laidOut : laidOutB Tryd.prog = true := by kernel_rfl
theorem star : "*" ++ "errors.errorString" = "*errors.errorString" := by decide
theorem err_row (u : TypeId) (h : Tryd.prog.typeName? 3 u = some "*errors.errorString") : u = 246 :=
  typeName_ptr_named (nm := "errors.errorString") (by rw [star]; kernel_rfl) (by kernel_rfl) (by decide) u (by rw [star]; exact h)
theorem laid_err {W : World} {n : String} {text : List UInt8} {r : List (String × DataW Unit)} {g : Nat} (h : laidMet Tryd.prog ((n, .iface "*errors.errorString" (.ptr (.agg [.lit (.string text)]))) :: r) W) (hg : Tryd.prog.globalNamed n = some g) (ht : (Tryd.prog.globals[g]?).map (·.type) = some 35) :
    ∃ (a : Addr) (s : ByteArray), W.cell? ⟨g, 0, none⟩ = some (.iface 246 (.pointer (some a))) ∧ W.cell? a = some (.string s) ∧ s.data.toList = text := by
  obtain ⟨ms, hi⟩ := run_ifcT (P := Tryd.prog) (T := 35) (by kernel_rfl)
  obtain ⟨a, s, h1, h2, h3, _⟩ := laid_sentinel h hg ht hi err_row Tryd.underlying246 Tryd.underlying272 rfl rfl Tryd.underlying9 (by kernel_rfl) (by kernel_rfl)
  exact ⟨a, s, by simpa using World.var?_cell hg h1 0, h2, h3⟩
theorem laid_kr {W : World} {r : List (String × DataW Unit)} (h : laidMet Tryd.prog (("quorate/hash.constants", Lib.tabData .u32 (kc.map fun x => (x.toNat : Int))) :: r) W) : KR W (fun k => ¬ (fun _ : Nat => False) k) := by
  have hT := Lib.tabIs_of_head (g := 18) (by kernel_rfl) (by kernel_rfl) (run_arrT Ty.arr_215) Ty.un_209 (by kernel_rfl) (by kernel_rfl) h
  refine ⟨fun i hi => ?_, id⟩
  have := World.var?_cell (g := 18) (by kernel_rfl) hT i
  rw [this]
  have hk : i < kc.length := hi
  simp only [List.map_map, List.getElem?_toArray, List.getElem?_map, List.getElem?_eq_getElem hk, Option.map_some]
  simp [W32, Kc, List.getD, List.getElem?_eq_getElem hk]
theorem agg_of_len {v : Value} {n : Nat} (h : v.cells.toList.length = n) (hn : n ≠ 1) : v = .agg v.cells.toList.toArray := by
  cases v <;> first | (simp [Value.cells] at h; exact absurd h.symm hn) | simp [Value.cells]
theorem still_id {w : World} : Still w (fun _ => True) w (fun k => ¬ (fun _ : Nat => False) k) := fun k _ _ => ⟨rfl, id⟩
theorem no_res {w : World} : stars [] w (fun _ => False) := fun _ h => h
theorem below_of {W W' : World} {L : List Res} (h : St W (fun _ => False) L W') : Below W.heap.size W W' := by
  obtain ⟨F, _, hst⟩ := h
  exact ⟨hst.os, hst.tape, hst.output, hst.size, fun k hk => hst.block k hk (fun h => h)⟩
noncomputable def lowB : Nat := (World.holding Tryd.prog default ⟨#[], #[], []⟩).heap.size
def digD {H : Type} : DataW H := .agg (List.replicate 16 (.lit (.int .u8 0)))
def zI {H : Type} : DataW H := .lit (.int .i64 0)
def qcD {H : Type} : DataW H := .agg [zI, zI, digD, .nil]
def blkD {H : Type} : DataW H := .agg [zI, zI, digD, qcD, .nil, .nil]
def sigD {H : Type} : DataW H := .agg [zI, .nil, .nil]
def sgnD {H : Type} : DataW H := .agg [zI, sigD]
def tcD {H : Type} : DataW H := .agg [zI, zI, .nil]
def chgD {H : Type} : DataW H := .agg [.agg [blkD, blkD, blkD], qcD]
def msgD {H : Type} : DataW H := .agg [zI, .agg [zI, zI, digD, sgnD], .agg [zI, zI, qcD, tcD, sgnD], .agg [blkD, tcD, sgnD], .agg [digD, digD], .agg [blkD], chgD]
end Go.Proofs.YtkgbbnhdioghmaaDoor
