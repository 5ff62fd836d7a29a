/- The engine, part L: two variables made in either order. -/
import Derived.Test.YtffkjjakceojfaaDoorEngK
namespace Go.Proofs.YtffkjjakceojfaaDoor
open Go
set_option linter.unusedVariables false
theorem Sel.head {r : Res} {L M L' : List Res} (h : Sel L M L') : Sel (r :: L) M (r :: L') := by
  induction h with
  | nil => exact Sel.nil
  | cons p _ ih => exact Sel.cons (Pick.there p) ih
theorem env_swap {t u : Nat} {v x : Value} {env : Env} (h : Nat.beq t u = false) (s : Nat) : Env.get ((t, v) :: (u, x) :: env) s = Env.get ((u, x) :: (t, v) :: env) s := by
  show (bif Nat.beq s t then v else (bif Nat.beq s u then x else Env.get env s)) = (bif Nat.beq s u then x else (bif Nat.beq s t then v else Env.get env s))
  cases h1 : Nat.beq s t <;> cases h2 : Nat.beq s u <;> try rfl
  rw [← Nat.eq_of_beq_eq_true h1, ← Nat.eq_of_beq_eq_true h2, Nat.beq_refl] at h
  cases h
theorem st_swap {w0 : World} {F0 : Nat → Prop} {r s : Res} {L : List Res} {w : World} (h : St w0 F0 (r :: s :: L) w) : St w0 F0 (s :: r :: L) w := by
  obtain ⟨F, hF, hst⟩ := h
  exact ⟨F, Pick.stars (.there .here) hF, hst⟩
section
variable {P : Program} {w0 : World} {F0 : Nat → Prop} {K L : List Res} {Q : Exit → Act → World → Prop} {n : Nat} {env : Env} {ops : Array Oper} {listed : Array Bool} {fuel z : Nat}
/-- Two new variables, in either order. -/
theorem yas2 (i j : Nat) {ti tj : Tmp} {Ti Tj : TypeId} {yi yj : TypeId} {qi qj : String} {fi fj : Array Edge} {gi gj : Option (Nat × Bool)} {ci cj : List Value} {L' : List Res} [ZC P Ti ci] [ZC P Tj cj]
    (hi : ops[i]? = some ⟨some ti, .alloc Ti, yi, qi, fi, gi⟩) (hj : ops[j]? = some ⟨some tj, .alloc Tj, yj, qj, fj, gj⟩)
    (k : ∀ bi bj, Gt P w0 F0 K (blk bj Tj cj :: blk bi Ti ci :: L) ops Q z fuel ((listed.setIfInBounds i true).setIfInBounds j true) n ((tj, .pointer (some ⟨bj, 0, none⟩)) :: (ti, .pointer (some ⟨bi, 0, none⟩)) :: env))
    (hsel : Sel L K L' := by repeat (first | exact Sel.nil | (apply Sel.cons; · (repeat (first | exact Pick.here | apply Pick.there)))))
    (hwi : ∀ env, Wt ops n env ⟨some ti, .alloc Ti, yi, qi, fi, gi⟩ true := by exact fun _ => wt0 rfl) (hwj : ∀ env, Wt ops n env ⟨some tj, .alloc Tj, yj, qj, fj, gj⟩ true := by exact fun _ => wt0 rfl)
    (ht : Nat.beq ti tj = false := by kernel_rfl) (hij : Nat.beq i j = false := by kernel_rfl) (hzi : Nat.beq i z = false := by kernel_rfl) (hzj : Nat.beq j z = false := by kernel_rfl)
    (hr : Region.ready .any ops listed = [i, j] := by kernel_rfl) (hri : Region.ready .any ops (listed.setIfInBounds i true) = [j] := by kernel_rfl) (hrj : Region.ready .any ops (listed.setIfInBounds j true) = [i] := by kernel_rfl) :
    Gt P w0 F0 K L ops Q z (fuel + 2) listed n env := fun w hst => by
  refine ⟨fun h => ?_, ?_, fun x hx hxz => ?_⟩
  · rw [hr] at h; cases h
  · rw [hr]; simp
  · rw [hr] at hx
    rcases List.mem_cons.1 hx with rfl | hx
    · refine wpOp_of_list hi ?_
      refine zal (fun bi => ?_) (hw := hwi _) w hst
      refine gl_nil fun w2 hw2 => ⟨(hw2.sel (Sel.head hsel)), ?_⟩
      exact yos (fuel := fuel) j hj (zal (fun bj => gl_nil fun w3 hw3 => ⟨hw3.sel (Sel.head (Sel.head hsel)), k bi bj w3 hw3⟩) (hw := hwj _)) (hr := hri) (hz := hzj) w2 hw2
    · obtain rfl : x = j := by simpa using hx
      refine wpOp_of_list hj ?_
      refine zal (fun bj => ?_) (hw := hwj _) w hst
      refine gl_nil fun w2 hw2 => ⟨(hw2.sel (Sel.head hsel)), ?_⟩
      refine yos (fuel := fuel) i hi (zal (fun bi => gl_nil fun w3 hw3 => ⟨hw3.sel (Sel.head (Sel.head hsel)), ?_⟩) (hw := hwi _)) (hr := hrj) (hz := hzi) w2 hw2
      have := k bi bj w3 (st_swap hw3)
      rw [fr_ext (fun t _ => env_swap (by rw [Bool.eq_false_iff] at ht ⊢; intro e; exact ht (by rw [Nat.eq_of_beq_eq_true e]; exact Nat.beq_refl _)) t)] at this
      rw [Array.setIfInBounds_comm _ _ (by intro e; subst e; simp at hij)] at this
      exact this
end
end Go.Proofs.YtffkjjakceojfaaDoor
