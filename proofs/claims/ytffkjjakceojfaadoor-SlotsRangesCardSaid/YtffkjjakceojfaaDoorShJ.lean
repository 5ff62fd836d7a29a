/- The shell, part J: the hash's constants; rows of rows of bytes. -/
import Derived.Test.YtffkjjakceojfaaDoorShG
import Derived.Test.YtffkjjakceojfaaDoorHa
import Derived.Lib.LaidTab
namespace Go.Proofs.YtffkjjakceojfaaDoor
open Go
open Go.ChangeShapes Go.WideShapes Go.RowKit
set_option linter.unusedVariables false
theorem laid_kr {W : World} {r : List (String × DataW Unit)} (h : laidMet Tryd.prog (("quorate/hash.constants", Lib.tabData .u32 (kc.map fun x => (x.toNat : Int))) :: r) W) : KR W (fun k => ¬ (fun _ : Nat => False) k) := by
  have hT := Lib.tabIs_of_head (g := 18) (by kernel_rfl) (by kernel_rfl) (run_arrT Ty.arr_100) Ty.un_93 (by kernel_rfl) (by kernel_rfl) h
  refine ⟨fun i hi => ?_, id⟩
  have := World.var?_cell (g := 18) (by kernel_rfl) hT i
  rw [this]
  have hk : i < kc.length := hi
  simp only [List.map_map, List.getElem?_toArray, List.getElem?_map, List.getElem?_eq_getElem hk, Option.map_some]
  simp [W32, Kc, List.getD, List.getElem?_eq_getElem hk]
theorem RdRowC.le {α : Type} {V : α → Value} {w : World} {A : Nat → Prop} {a : Option Addr} {n c : Nat} {l : List α} (h : RdRowC V w A [.slice a n c] l) : n ≤ c := by
  obtain ⟨a', n', c', e, hle, _⟩ := h
  injection e with e _
  injection e with e1 e2 e3
  subst e2; subst e3
  exact hle
def RdLists (w : World) (A : Nat → Prop) (cs : List Value) (l : List (List UInt8)) : Prop := ∃ a n c, cs = [.slice a n c] ∧ n ≤ c ∧ RdList (RdBytes w A) w A 1 a n l
theorem RdLists.list {w : World} {A : Nat → Prop} {a : Option Addr} {n c : Nat} {l : List (List UInt8)} (h : RdLists w A [.slice a n c] l) : RdList (RdBytes w A) w A 1 a n l := by
  obtain ⟨a', n', c', e, _, hr⟩ := h
  injection e with e _
  injection e with e1 e2 e3
  subst e1; subst e2
  exact hr
section
variable {H : Type} {enc : TypeId × Value → H} {w : World} {base : Nat} {sp : Nat → Bool} {held : Bool}
theorem o_rlists : Opens enc Tryd.prog w base sp held 22 (RdLists w TT) := opens_slice (s := 1) Ty.sl_22 Ty.sz_32 (by decide) (opens_bytes Ty.sl_32 Ty.sz_5 Ty.un_5)
end
end Go.Proofs.YtffkjjakceojfaaDoor
