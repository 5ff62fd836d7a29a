/- The shell, part I: the ops of layer 6. -/
import Derived.Test.YtapcnajfbippmaaDoorShF
import Derived.Test.YtapcnajfbippmaaDoorPa6
namespace Go.Proofs.YtapcnajfbippmaaDoor
open Go
set_option linter.unusedVariables false
section
variable {H : Type} {enc : TypeId × Value → H} {w : World} {base : Nat} {sp : Nat → Bool} {held : Bool}
theorem o_op6 : Opens enc Tryd.prog w base sp held 50 (RdOp6 w TT) := fun fuel cs x h => by
  have hl := opens_lenT (i := 0) (f := 3) (o := 0) (s := 4) (by kernel_rfl) (by kernel_rfl) h
  obtain ⟨n0, h0⟩ := opens_fieldT (i := 0) (f := 3) (o := 0) (s := 1) (by kernel_rfl) (by kernel_rfl) (opens_int Ty.un_3) h
  obtain ⟨n1, h1, i1⟩ := opens_fieldT (i := 1) (f := 3) (o := 1) (s := 1) (by kernel_rfl) (by kernel_rfl) (opens_i64 Ty.un_3) h
  obtain ⟨y2, h2⟩ := opens_fieldT (i := 2) (f := 5) (o := 2) (s := 1) (by kernel_rfl) (by kernel_rfl) (opens_byte Ty.un_5) h
  obtain ⟨l3, a3, m3, c3, h3, k3, r3⟩ := opens_fieldT (i := 3) (f := 23) (o := 3) (s := 1) (by kernel_rfl) (by kernel_rfl) o_rbools h
  have e0 := seg cs 0 1
  have e1 := seg cs 1 1
  have e2 := seg cs 2 1
  have e3 := seg cs 3 1
  have ee := drop_all hl
  have e : cs = _ := (List.drop_zero (l := cs)).symm.trans e0
  simp only [Nat.reduceAdd, Nat.zero_add] at e e1 e2 e3
  rw [h0, e1, h1, e2, h2, e3, h3, ee] at e
  exact ⟨⟨n0, n1, y2, l3⟩, i1, a3, m3, c3, e, k3, r3⟩
def RdOps6 (w : World) (A : Nat → Prop) (cs : List Value) (l : List Op6) : Prop := ∃ a n c, cs = [.slice a n c] ∧ n ≤ c ∧ RdList (RdOp6 w A) w A 4 a n l
theorem o_ops6 : Opens enc Tryd.prog w base sp held 46 (RdOps6 w TT) := opens_slice (s := 4) Ty.sl_46 Ty.sz_50 (by decide) o_op6
theorem ops6_list {a : Option Addr} {n c : Nat} {l : List Op6} (h : RdOps6 w TT [.slice a n c] l) : RdList (RdOp6 w TT) w TT 4 a n l := by
  obtain ⟨a', n', c', e, _, hr⟩ := h
  injection e with e _
  injection e with e1 e2 e3
  subst e1; subst e2
  exact hr
end
end Go.Proofs.YtapcnajfbippmaaDoor
