/- Walks, by program (wg.py) out of a spec. -/
import Derived.Test.YtffkjjakceojfaaDoorEngZ
import Derived.Test.YtffkjjakceojfaaDoorEngN
import Derived.Test.YtffkjjakceojfaaDoorTy
namespace Go.Proofs.YtffkjjakceojfaaDoor
open Go
set_option linter.unusedVariables false
set_option linter.unusedSimpArgs false


/-- An error by its number (0: none): a pointer to the number's own text. -/
@[irreducible] def eV (TE : TypeId) (ea : Nat → Addr) : Nat → Value
  | 0 => .nilIface
  | k + 1 => .iface TE (.pointer (some (ea (k + 1))))
theorem eV_one (TE : TypeId) (ea : Nat → Addr) (k : Nat) : (eV TE ea k).oneCell' = true := by cases k <;> (unfold eV; rfl)
instance {TE : TypeId} {ea : Nat → Addr} {k : Nat} : One1 (eV TE ea k) := ⟨eV_one TE ea k⟩
theorem eV_cells (TE : TypeId) (ea : Nat → Addr) (k : Nat) : (eV TE ea k).cells.toList = [eV TE ea k] := by cases k <;> (unfold eV; rfl)
theorem eV_zero (TE : TypeId) (ea : Nat → Addr) : eV TE ea 0 = .nilIface := by unfold eV; rfl

theorem run_equal_nil {P : Program} {T TE k : Nat} {ea : Nat → Addr} (ht : ifcT P T = true) (w : World) : (Op.equal T (eV TE ea k) .nilIface).run P w = .ok (decide (k = 0)) w := by
  obtain ⟨ms, hu⟩ := run_ifcT ht
  cases k with
  | zero =>
    have h : ∀ d : Nat, (Op.equalIn (d + 1) T .nilIface .nilIface).run P w = .ok true w := fun d => by simp [Op.equalIn, run_underlying hu]
    unfold eV
    simp [Op.equal, Op.maxDepth, h 9999]
  | succ k =>
    have h : ∀ d : Nat, (Op.equalIn (d + 1) T (.iface TE (.pointer (some (ea (k + 1))))) .nilIface).run P w = .ok false w := fun d => by simp [Op.equalIn, run_underlying hu]
    unfold eV
    simp [Op.equal, Op.maxDepth, h 9999]
section
variable {P : Program} {w0 : World} {F0 : Nat → Prop} {L : List Res} {n : Nat} {env : Env} {d : Option Tmp} {ty : TypeId} {pos : String} {af : Array Edge} {gd : Option (Nat × Bool)} {T T' : TypeId} {x : Operand} {TE k : Nat} {ea : Nat → Addr}
theorem r_eqnil (hx : ev n env x = eV TE ea k) (ht : ifcT P T = true) : Runs P w0 F0 L n env ⟨d, .binOp .eql T x (.const .nilIface) T', ty, pos, af, gd⟩ (.bool (decide (k = 0))) := fun w _ => by
  have h := run_equal_nil (P := P) (TE := TE) (k := k) (ea := ea) ht w
  have hg : (eqGuard .eql T x (.const .nilIface) (ev n env x) .nilIface).run P w = .ok () w := by
    rw [hx]; cases k <;> (unfold eV; simp [eqGuard])
  have hb : (binOp .eql T (ev n env x) .nilIface).run P w = .ok (.bool (decide (k = 0))) w := by
    rw [hx]; cases k <;> (unfold eV at h ⊢; simp only [binOp]; simp [h])
  simp only [execOp, Sem.run_bind]
  rw [show ev n env (.const .nilIface) = .nilIface from rfl, hg, Result.andThen_ok, hb]
  rfl
theorem r_nenil (hx : ev n env x = eV TE ea k) (ht : ifcT P T = true) : Runs P w0 F0 L n env ⟨d, .binOp .neq T x (.const .nilIface) T', ty, pos, af, gd⟩ (.bool (!decide (k = 0))) := fun w _ => by
  have h := run_equal_nil (P := P) (TE := TE) (k := k) (ea := ea) ht w
  have hg : (eqGuard .neq T x (.const .nilIface) (ev n env x) .nilIface).run P w = .ok () w := by
    rw [hx]; cases k <;> (unfold eV; simp [eqGuard])
  have hb : (binOp .neq T (ev n env x) .nilIface).run P w = .ok (.bool (!decide (k = 0))) w := by
    rw [hx]; cases k <;> (unfold eV at h ⊢; simp only [binOp]; simp [h])
  simp only [execOp, Sem.run_bind]
  rw [show ev n env (.const .nilIface) = .nilIface from rfl, hg, Result.andThen_ok, hb]
  rfl
end


def errG : Nat → Nat
  | 1 => 0
  | 2 => 3
  | 3 => 4
  | 4 => 5
  | 5 => 6
  | 6 => 7
  | 7 => 2
  | 8 => 1
  | 9 => 8
  | 10 => 9
  | 11 => 10
  | 12 => 11
  | 13 => 12
  | 14 => 13
  | 15 => 14
  | 16 => 15
  | 17 => 16
  | _ => 17
/-- es has this error. -/
class Has (es : List Nat) (i : Nat) : Prop where
  h : i ∈ es
instance {i : Nat} {l : List Nat} : Has (i :: l) i := ⟨List.mem_cons_self⟩
instance {i j : Nat} {l : List Nat} [k : Has l i] : Has (j :: l) i := ⟨List.mem_cons_of_mem _ k.h⟩
/-- These errors' variables hold their errors, and lie in A. -/
structure GErr (es : List Nat) (w : World) (A : Nat → Prop) (TE : TypeId) (ea : Nat → Addr) : Prop where
  c : ∀ i, i ∈ es → w.cell? ⟨errG i, 0, none⟩ = some (eV TE ea i)
  n : ∀ i, i ∈ es → A (errG i)
theorem GErr.mv {es : List Nat} {w w' : World} {A A' : Nat → Prop} {TE : TypeId} {ea : Nat → Addr} (h : GErr es w A TE ea) (hk : ∀ k, k < w.heap.size → A k → w'.heap[k]? = w.heap[k]? ∧ A' k) : GErr es w' A' TE ea :=
  ⟨fun i hi => by
    have := hk _ (World.block_lt_of_cell? w ⟨errG i, 0, none⟩ (h.c i hi)) (h.n i hi)
    rw [World.cell?_of_block (w := w) (a := ⟨errG i, 0, none⟩) this.1]; exact h.c i hi,
   fun i hi => (hk _ (World.block_lt_of_cell? w ⟨errG i, 0, none⟩ (h.c i hi)) (h.n i hi)).2⟩

end Go.Proofs.YtffkjjakceojfaaDoor
