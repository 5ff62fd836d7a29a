/- Walks, by program (wg.py) out of a spec. -/
import Derived.Test.YtapcnajfbippmaaDoorDc
import Derived.Test.YtapcnajfbippmaaDoorEb
namespace Go.Proofs.YtapcnajfbippmaaDoor
open Go
set_option linter.unusedVariables false
set_option linter.unusedSimpArgs false


theorem u64_rng (x : Int) : 0 ≤ IntKind.u64.wrap x ∧ IntKind.u64.wrap x < 18446744073709551616 := by
  simp only [IntKind.wrap, IntKind.bits, IntKind.signed]; simp; omega
theorem u64_mod (a : Int) {m : Nat} (hm : 0 < m) : ∃ l : Nat, (IntKind.u64.wrap a).tmod (m : Int) = (l : Int) ∧ l < m := by
  obtain ⟨h0, _⟩ := u64_rng a
  refine ⟨((IntKind.u64.wrap a).tmod (m : Int)).toNat, by rw [Int.toNat_of_nonneg (Int.tmod_nonneg _ h0)], ?_⟩
  have := Int.tmod_lt_of_pos (IntKind.u64.wrap a) (show (0 : Int) < (m : Int) by omega)
  have := Int.tmod_nonneg (m : Int) h0
  omega

attribute [local irreducible] Gl Gc Gx Gs Runs Wt

set_option maxHeartbeats 400000 in
theorem diskPower_ok {w : World} {F : Nat → Prop} {n0 n1 : Int} {ea : Nat → Addr} (h : stars [] w F) (hN : NErr w (fun k => ¬ F k) ea) :
    Calls Tryd.prog 6 #[.int .i64 n0, .int .i64 n1] w (Post w F (fun _ : Unit => .bool true) (fun _ => [])) := by
  have hE := hN.g
  obtain ⟨l, hl, hl30⟩ := u64_mod n0 (m := 30) (by decide)
  obtain ⟨m, hm, hm30⟩ := u64_mod n1 (m := 30) (by decide)
  refine g_enter (env := [(0, .int .i64 n0), (1, .int .i64 n1)]) Tryd.func6 rfl h Tryd.ntmps6 rfl rfl ?_
  refine gsr ?_
  refine gp zas ?_
  refine gnt ?_
  refine gc_seq ?_
  refine gsr ?_
  refine zc (fun _ => ?_) (c := fun w1 F1 F2 h1 h2 hd hst => alive06_ok h1 (hE.mv hst.still))
  refine gp znt ?_
  refine gnt ?_
  refine gc_condF rfl rfl ?_
  refine gc_skip ?_
  refine gx_then ?_
  refine gsr ?_
  refine gp zmv ?_
  refine gp zci ?_
  refine gp (r_int zrm hl) ?_
  refine gp (r_int (j := (l : Int)) zci (wrap_i64 (by omega) (by omega))) ?_
  refine gp zmv ?_
  refine gp zci ?_
  refine gp (r_int zrm hm) ?_
  refine gp (r_int (j := (m : Int)) zci (wrap_i64 (by omega) (by omega))) ?_
  refine gp zas ?_
  refine gp zas ?_
  refine gnt ?_
  refine gsr ?_
  refine zc (fun g20 => ?_) (c := fun w1 F1 F2 h1 h2 hd hst => new_ok (n := 30) (ea := ea) h1 (by decide) (by decide))
  refine gp zmv ?_
  refine gp zex ?_
  refine gp zex ?_
  refine gp zas ?_
  refine gp zas ?_
  refine gnt ?_
  refine gc_seq ?_
  refine gsr ?_
  refine gp zmv ?_
  refine gp (r_bool (c := false) (r_nenil rfl (by kernel_rfl)) rfl) ?_
  refine gnt ?_
  refine gc_condF rfl rfl ?_
  refine gc_skip ?_
  refine gx_then ?_
  refine gsr ?_
  refine gp zmv ?_
  refine gp zmv ?_
  refine zc (fun _ => ?_) (c := fun w1 F1 F2 h1 h2 hd hst => arm_ok (n := (l : Int)) h1)
  rw [dP_arm 30 9 l]
  refine gnt ?_
  refine gc_seq ?_
  refine gsr ?_
  refine gp zmv ?_
  refine gp zmv ?_
  refine gnt ?_
  refine gc_block ?_
  refine gc_loop (α := Nat) (fun k => [pureR (k ≤ m), DiskR g20 (dP 30 9 l k)]) (fun k => [(29, .int .i64 (k : Int))]) [4, 7, 8, 30, 31, 32, 33, 34, 35, 36, 37, 38, 39, 40, 41, 42, 43, 44, 45, 46, 47, 48, 49, 50, 51] (fun k => m - k) 0 ?_ ?_ ?_
  · refine env_start (by kernel_rfl)
  · exact zlp (Nat.zero_le _)
  · intro k u
    refine gc_pureR (fun hk => ?_)
    replace hk : k ≤ m := hk
    refine gsr ?_
    refine gp zlt ?_
    refine gnt ?_
    refine gc_seq ?_
    refine gif rfl (fun hc30 => ?_) (fun hc30 => ?_)
    · try simp only at hc30
      have hk' : k < m := by omega
      refine gc_skip ?_
      refine gx_then ?_
      refine gc_seq ?_
      refine gc_block ?_
      refine gsr ?_
      refine gp zmv ?_
      refine gp zas ?_
      refine gnt ?_
      refine gc_seq ?_
      by_cases hkl : k < l
      · refine gc_region ?_
        refine gp zmv ?_
        refine gp zmv ?_
        refine gp (zba (cs := sc (secOf (9))) (by exact rfl)) ?_
        refine zc (fun _ => ?_) (c := fun w1 F1 F2 h1 h2 hd hst => write_ok' (i := (k : Int)) (v := secOf (9)) h1 (dP_ok (by decide) (by omega) (by omega)) (hE.mv hst.still))
        rw [dP_yes (by omega) hkl]
        refine gp zas ?_
        refine gnt ?_
        refine gsr ?_
        refine gp zmv ?_
        refine gp (r_bool (c := true) (r_eqnil rfl (by kernel_rfl)) rfl) ?_
        refine gp zmv ?_
        refine gp zmv ?_
        refine gp (r_bool (c := true) zlt (decide_eq_true (by omega))) ?_
        refine gp (r_bool (c := false) (r_neq_bool rfl rfl Tryd.underlying4) rfl) ?_
        refine gp zmv ?_
        refine gq zmv ?_
        refine gq (r_bool (c := false) (r_nenil rfl (by kernel_rfl)) rfl) ?_
        refine gq zmv ?_
        refine gn ?_
        refine gn ?_
        refine gn ?_
        refine gq zpk ?_
        refine gp zpk ?_
        refine gnt ?_
        refine gc_condF rfl rfl ?_
        refine gc_skip ?_
        refine gx_block_normal ?_
        refine gx_then ?_
        refine gc_region ?_
        refine gp zad ?_
        refine gp zmv ?_
        refine gl_nil ?_
        refine zrd (k + 1) ?_ ?_
        · show m - (k + 1) < m - k
          omega
        · exact zlp (show k + 1 ≤ m by omega)
      · refine gc_region ?_
        refine gp zmv ?_
        refine gp zmv ?_
        refine gp (zba (cs := sc (secOf (9))) (by exact rfl)) ?_
        refine zc (fun _ => ?_) (c := fun w1 F1 F2 h1 h2 hd hst => write_ok' (i := (k : Int)) (v := secOf (9)) h1 (dP_ok (by decide) (by omega) (by omega)) (hE.mv hst.still))
        rw [dP_no (by omega) (by omega)]
        refine gp zas ?_
        refine gnt ?_
        refine gsr ?_
        refine gp zmv ?_
        refine gp (r_bool (c := false) (r_eqnil rfl (by kernel_rfl)) rfl) ?_
        refine gp zmv ?_
        refine gp zmv ?_
        refine gp (r_bool (c := false) zlt (decide_eq_false (by omega))) ?_
        refine gp (r_bool (c := false) (r_neq_bool rfl rfl Tryd.underlying4) rfl) ?_
        refine gp zmv ?_
        refine gq zmv ?_
        refine gq (r_bool (c := true) (r_nenil rfl (by kernel_rfl)) rfl) ?_
        refine gq zmv ?_
        refine gq zmv ?_
        refine zc (fun _ => ?_) (c := fun w1 F1 F2 h1 h2 hd hst => errNum_ok (n := 6) h1 (hN.mv hst.still) (by decide))
        refine gq (r_bool (c := false) zni rfl) ?_
        refine gq zpk ?_
        refine gp zpk ?_
        refine gnt ?_
        refine gc_condF rfl rfl ?_
        refine gc_skip ?_
        refine gx_block_normal ?_
        refine gx_then ?_
        refine gc_region ?_
        refine gp zad ?_
        refine gp zmv ?_
        refine gl_nil ?_
        refine zrd (k + 1) ?_ ?_
        · show m - (k + 1) < m - k
          omega
        · exact zlp (show k + 1 ≤ m by omega)
    · try simp only at hc30
      have hk' : k = m := by omega
      subst hk'
      refine gc_exit ?_
      refine gx_then_exit ?_
      refine gx_round_exit ?_
      refine gx_block_hit ?_
      refine gx_then ?_
      refine gsr ?_
      refine gp zmv ?_
      refine zc ?_ (c := fun w1 F1 F2 h1 h2 hd hst => unsynced_ok h1 (dP_ok (by decide) (by omega) (by omega)))
      rintro ⟨a53, c53⟩
      rw [dP_len]
      refine gp zln ?_
      refine gp zmv ?_
      refine gp zmv ?_
      refine gp (r_min) ?_
      refine gp (r_bool (c := true) zei (decide_eq_true (by split <;> omega))) ?_
      refine gp zmv ?_
      refine gq zmv ?_
      refine zc (fun _ => ?_) (c := fun w1 F1 F2 h1 h2 hd hst => off_ok h1)
      rw [dP_off]
      refine gq zmv ?_
      refine gq zmv ?_
      refine gq zgt ?_
      refine gq (r_bool (c := true) zeb (by by_cases h9 : l < k <;> simp [h9, show ((l : Int) < k) = (l < k) by simp])) ?_
      refine gp zpk ?_
      refine gp zas ?_
      refine gnt ?_
      refine gc_ret ?_
      refine gx_ret1 rfl (by conv => lhs; whnf) ?_
      exact ze ()

set_option maxHeartbeats 400000 in
theorem diskAsks_ok {w : World} {F : Nat → Prop} {n0 : Int} {nr : Nat} {rs : List Int} (h : stars [] w F) {ea : Nat → Addr} {es : List Nat} [Has es 1] [Has es 6] (hE : GErr es w (fun k => ¬ F k) 109 ea) {ar : Option Addr} {cr : Nat} (hr : RdRow w (fun k => ¬ F k) 1 ar nr (rs.map (Value.int .i64))) :
    Calls Tryd.prog 5 #[.int .i64 n0, .slice ar nr cr] w (Post w F (fun _ : Unit => .bool true) (fun _ => [])) := by
  have hnr : nr = rs.length := by have := hr.1; simp at this; omega
  obtain ⟨l, hl, hl20⟩ := u64_mod n0 (m := 20) (by decide)
  refine g_enter (env := [(0, .int .i64 n0), (1, .slice ar nr cr)]) Tryd.func5 rfl h Tryd.ntmps5 rfl rfl ?_
  refine gsr ?_
  refine gp zas ?_
  refine gnt ?_
  refine gc_seq ?_
  refine gsr ?_
  refine zc (fun _ => ?_) (c := fun w1 F1 F2 h1 h2 hd hst => alive06_ok h1 (hE.mv hst.still))
  refine gp znt ?_
  refine gnt ?_
  refine gc_condF rfl rfl ?_
  refine gc_skip ?_
  refine gx_then ?_
  refine gc_seq ?_
  refine gsr ?_
  refine gp zmv ?_
  refine gp zln ?_
  refine gp zgt ?_
  refine gnt ?_
  refine gif rfl (fun hc14 => ?_) (fun hc14 => ?_)
  · refine gsr ?_
    refine gp zas ?_
    refine gnt ?_
    refine gc_ret ?_
    refine gx_then_ret ?_
    refine gx_ret1 rfl (by conv => lhs; whnf) ?_
    exact ze ()
  · refine gc_skip ?_
    refine gx_then ?_
    refine gsr ?_
    refine gp zmv ?_
    refine gp zci ?_
    refine gp (r_int zrm hl) ?_
    refine gp (r_int (j := (l : Int)) zci (wrap_i64 (by omega) (by omega))) ?_
    refine gp zas ?_
    refine gnt ?_
    refine gsr ?_
    refine zc (fun g20 => ?_) (c := fun w1 F1 F2 h1 h2 hd hst => new_ok (n := 20) (ea := ea) h1 (by decide) (by decide))
    refine gp zmv ?_
    refine gp zex ?_
    refine gp zex ?_
    refine gp zas ?_
    refine gp zas ?_
    refine gnt ?_
    refine gc_seq ?_
    refine gsr ?_
    refine gp zmv ?_
    refine gp (r_bool (c := false) (r_nenil rfl (by kernel_rfl)) rfl) ?_
    refine gnt ?_
    refine gc_condF rfl rfl ?_
    refine gc_skip ?_
    refine gx_then ?_
    refine gsr ?_
    refine gp zmv ?_
    refine gp zmv ?_
    refine zc (fun _ => ?_) (c := fun w1 F1 F2 h1 h2 hd hst => arm_ok (n := (l : Int)) h1)
    rw [dP_arm 20 1 l]
    refine gnt ?_
    refine gc_seq ?_
    refine gsr ?_
    refine gp zmv ?_
    refine gp zln ?_
    refine gp zmv ?_
    refine gnt ?_
    refine gc_block ?_
    refine gc_loop (α := Nat) (fun k => [pureR (k ≤ nr), DiskR g20 (dP 20 1 l 0)]) (fun k => [(30, .int .i64 (k : Int))]) [8, 31, 32, 33, 34, 35, 36, 37, 38, 39, 40, 41, 42, 43, 44] (fun k => nr - k) 0 ?_ ?_ ?_
    · refine env_start (by kernel_rfl)
    · exact zlp (Nat.zero_le _)
    · intro k u
      refine gc_pureR (fun hk => ?_)
      replace hk : k ≤ nr := hk
      refine gsr ?_
      refine gp zlt ?_
      refine gnt ?_
      refine gc_seq ?_
      refine gif rfl (fun hc31 => ?_) (fun hc31 => ?_)
      · try simp only at hc31
        have hk' : k < nr := by omega
        obtain ⟨gr, jr, har, hAr, _, _⟩ := hr.2.2 (by omega)
        subst har
        refine gc_skip ?_
        refine gx_then ?_
        refine gc_seq ?_
        refine gc_block ?_
        refine gsr ?_
        refine gp zia ?_
        refine gp (r_ld1o rfl Ty.row_3 (hr.cellV hk' 0).1 hAr) ?_
        refine gp zas ?_
        refine gnt ?_
        refine gsr ?_
        refine gp zmv ?_
        refine gp zmv ?_
        refine zc (fun _ => ?_) (c := fun w1 F1 F2 h1 h2 hd hst => read_ok (i := rs.getD k 0) h1 (hE.mv hst.still))
        refine gp zmv ?_
        refine gp zex ?_
        refine gp zex ?_
        refine gnt ?_
        refine gsr ?_
        refine gp zmv ?_
        refine zc ?_ (c := fun w1 F1 F2 h1 h2 hd hst => unsynced_ok h1 (dP_ok (by decide) (by omega) (by omega)))
        rintro ⟨a41, c41⟩
        refine gnt ?_
        refine gc_region ?_
        refine gp zmv ?_
        refine zc (fun _ => ?_) (c := fun w1 F1 F2 h1 h2 hd hst => size_ok h1)
        refine gl_nil ?_
        refine gx_block_normal ?_
        refine gx_then ?_
        refine gc_region ?_
        refine gp zad ?_
        refine gp zmv ?_
        refine gl_nil ?_
        refine zrd (k + 1) ?_ ?_
        · show nr - (k + 1) < nr - k
          omega
        · exact zlp (show k + 1 ≤ nr by omega)
      · refine gc_exit ?_
        refine gx_then_exit ?_
        refine gx_round_exit ?_
        refine gx_block_hit ?_
        refine gx_then ?_
        refine gsr ?_
        refine gp zas ?_
        refine gnt ?_
        refine gc_seq ?_
        refine gc_block ?_
        refine gc_loop (α := Nat) (fun j => [pureR (j ≤ l), DiskR g20 (dP 20 1 l j)]) (fun j => [(9, .int .i64 (j : Int))]) [45, 46, 47, 48, 49, 50, 51, 52] (fun j => l - j) 0 ?_ ?_ ?_
        · refine env_start (by kernel_rfl)
        · exact zlp (Nat.zero_le _)
        · intro j u
          refine gc_pureR (fun hj => ?_)
          replace hj : j ≤ l := hj
          refine gc_seq ?_
          refine gc_seq ?_
          by_cases hjl : j < l
          · refine gc_region ?_
            refine gp zmv ?_
            refine gp zmv ?_
            refine gp (r_int (j := (j : Int)) zrm (Int.tmod_eq_of_lt (by omega) (by omega))) ?_
            refine gp (zba (cs := sc (secOf (1))) (by exact rfl)) ?_
            refine zc (fun _ => ?_) (c := fun w1 F1 F2 h1 h2 hd hst => write_ok' (i := (j : Int)) (v := secOf (1)) h1 (dP_ok (by decide) (by omega) (by omega)) (hE.mv hst.still))
            rw [dP_yes (by omega) hjl]
            refine gp (r_bool (c := true) (r_eqnil rfl (by kernel_rfl)) rfl) ?_
            refine gnt ?_
            refine gc_condT rfl rfl ?_
            refine gc_skip ?_
            refine gx_then ?_
            refine gc_block ?_
            refine gc_region ?_
            refine gp zmv ?_
            refine gp zad ?_
            refine gp zas ?_
            refine gl_nil ?_
            refine gx_block_normal ?_
            refine zrd (j + 1) ?_ ?_
            · show l - (j + 1) < l - j
              omega
            · exact zlp (show j + 1 ≤ l by omega)
          · refine gc_region ?_
            refine gp zmv ?_
            refine gp zmv ?_
            refine gp (r_int (j := (j : Int)) zrm (Int.tmod_eq_of_lt (by omega) (by omega))) ?_
            refine gp (zba (cs := sc (secOf (1))) (by exact rfl)) ?_
            refine zc (fun _ => ?_) (c := fun w1 F1 F2 h1 h2 hd hst => write_ok' (i := (j : Int)) (v := secOf (1)) h1 (dP_ok (by decide) (by omega) (by omega)) (hE.mv hst.still))
            rw [dP_no (by omega) (by omega)]
            refine gp (r_bool (c := false) (r_eqnil rfl (by kernel_rfl)) rfl) ?_
            refine gnt ?_
            refine gc_condF rfl rfl ?_
            refine gc_exit ?_
            refine gx_then_exit ?_
            refine gx_round_exit ?_
            refine gx_block_hit ?_
            refine gx_then ?_
            refine gsr ?_
            refine gp zmv ?_
            refine gp zmv ?_
            refine gp (r_bool (c := true) zei (decide_eq_true (by omega))) ?_
            refine gp zmv ?_
            refine gq zmv ?_
            refine zc (fun _ => ?_) (c := fun w1 F1 F2 h1 h2 hd hst => off_ok h1)
            rw [dP_off, decide_eq_true (show l < j + 1 by omega)]
            refine gp zpk ?_
            refine gp zas ?_
            refine gnt ?_
            refine gc_ret ?_
            refine gx_ret1 rfl (by conv => lhs; whnf) ?_
            exact ze ()

end Go.Proofs.YtapcnajfbippmaaDoor
