/- Walks, by program (wg.py) out of a spec. -/
import Derived.Test.YtffkjjakceojfaaDoorZl
namespace Go.Proofs.YtffkjjakceojfaaDoor
open Go
set_option linter.unusedVariables false
set_option linter.unusedSimpArgs false

attribute [local irreducible] Gl Gc Gx Gs Runs Wt

set_option maxHeartbeats 400000 in
theorem slotsElder_ok {w : World} {F : Nat → Prop} {nl cl : Nat} {al : Option Addr} {xs : List (List UInt8)} {both : Bool} (h : stars [] w F) {ea : Nat → Addr} {es : List Nat} [Has es 1] [Has es 6] [Has es 7] [Has es 8] (hE : GErr es w (fun k => ¬ F k) 139 ea) (hK : KR w (fun k => ¬ F k)) (hl : RdList (RdBytes w fun k => ¬ F k) w (fun k => ¬ F k) 1 al nl xs) :
    Calls Tryd.prog 3 #[.slice al nl cl, .bool both] w (Post w F (fun _ : Unit => .bool true) (fun _ => [])) := by
  have hnl := hl.len (by decide)
  refine g_enter (env := [(0, .slice al nl cl), (1, .bool both)]) Tryd.func3 rfl h Tryd.ntmps3 rfl rfl ?_
  refine gsr ?_
  refine gp zas ?_
  refine gnt ?_
  refine gc_seq ?_
  refine gsr ?_
  refine zc (fun _ => ?_) (c := fun w1 F1 F2 h1 h2 hd hst => alive07_ok h1 (hE.mv hst.still) (hK.mv hst.still))
  refine gp znt ?_
  refine gnt ?_
  refine gc_condF rfl rfl ?_
  refine gc_skip ?_
  refine gx_then ?_
  refine gc_seq ?_
  refine gc_seq ?_
  by_cases hg1 : nl < 1
  · refine gc_region ?_
    refine gp zmv ?_
    refine gp zln ?_
    refine gp (r_bool (c := true) zlt (decide_eq_true (by omega))) ?_
    refine gp zmv ?_
    refine gn ?_
    refine gn ?_
    refine gn ?_
    refine gp zpk ?_
    refine gnt ?_
    refine gc_condT rfl rfl ?_
    refine gsr ?_
    refine gp zas ?_
    refine gnt ?_
    refine gc_ret ?_
    refine gx_then_ret ?_
    refine gx_ret1 rfl (by conv => lhs; whnf) ?_
    exact ze ()
  · refine gc_region ?_
    refine gp zmv ?_
    refine gp zln ?_
    refine gp (r_bool (c := false) zlt (decide_eq_false (by omega))) ?_
    refine gp zmv ?_
    refine gq zmv ?_
    refine gq zln ?_
    refine gq zgt ?_
    refine gp zpk ?_
    refine gnt ?_
    refine gif rfl (fun hc21 => ?_) (fun hc21 => ?_)
    · refine gsr ?_
      refine gp zas ?_
      refine gnt ?_
      refine gc_ret ?_
      refine gx_then_ret ?_
      refine gx_ret1 rfl (by conv => lhs; whnf) ?_
      exact ze ()
    · refine gc_skip ?_
      refine gx_then ?_
      refine gsr ?_
      refine zc (fun g23 => ?_) (c := fun w1 F1 F2 h1 h2 hd hst => new_ok (n := 2) (ea := ea) h1 (by decide) (by decide))
      refine gp zmv ?_
      refine gp zex ?_
      refine gp zex ?_
      refine gp zas ?_
      refine gp zas ?_
      refine gnt ?_
      refine gc_seq ?_
      refine gsr ?_
      refine gp zmv ?_
      refine gp (r_bool (c := false) (r_nenil rfl (by kernel_rfl)) rfl) ?_
      refine gnt ?_
      refine gc_condF rfl rfl ?_
      refine gc_skip ?_
      refine gx_then ?_
      refine gsr ?_
      refine gp zmv ?_
      refine zc (fun g30 => ?_) (c := fun w1 F1 F2 h1 h2 hd hst => format_G (fmt_Z fun _ => sec0) h1 (dZ_ok _) (hE.mv hst.still) (hK.mv hst.still))
      refine gp zmv ?_
      refine gp zex ?_
      refine gp zex ?_
      refine gp zas ?_
      refine gp zas ?_
      refine gnt ?_
      refine gc_seq ?_
      refine gsr ?_
      refine gp zmv ?_
      refine gp (r_bool (c := false) (r_nenil rfl (by kernel_rfl)) rfl) ?_
      refine gnt ?_
      refine gc_condF rfl rfl ?_
      refine gc_skip ?_
      refine gx_then ?_
      refine gsr ?_
      refine gp zas ?_
      refine gnt ?_
      refine gc_seq ?_
      refine gsr ?_
      refine gp zmv ?_
      refine gp zln ?_
      refine gp zmv ?_
      refine gnt ?_
      refine gc_block ?_
      refine gc_loop (α := Nat) (fun k => [pureR (k ≤ nl ∧ ∀ j, j < k → (xs.getD j []).length ≤ 31), SlR g30 g23 ⟨0, k, recs xs k⟩, DiskR g23 (dZ (fE xs k))]) (fun k => [(37, .int .i64 (k : Int)), (8, .string (str (recs xs (k - 1))))]) [4, 9, 10, 38, 39, 40, 41, 42, 43, 44, 45, 46, 47, 48, 49, 50, 51, 52, 53, 54, 55, 56, 57, 58, 59] (fun k => nl - k) 0 ?_ ?_ ?_
      · refine env_start (by kernel_rfl)
      · exact zlp ⟨Nat.zero_le _, fun j h => absurd h (Nat.not_lt_zero _)⟩
      · intro k u
        refine gc_pureR (fun hk => ?_)
        obtain ⟨hk, h31⟩ := hk
        replace hk : k ≤ nl := hk
        replace h31 : ∀ j, j < k → (xs.getD j []).length ≤ 31 := h31
        have hrk := recs_len h31
        refine gsr ?_
        refine gp zlt ?_
        refine gnt ?_
        refine gc_seq ?_
        refine gif rfl (fun hc38 => ?_) (fun hc38 => ?_)
        · try simp only at hc38
          have hk' : k < nl := by omega
          obtain ⟨ga, o, cs, x, ha, hA, hg, hra, hcl, hly, hrd⟩ := hl.elem (by decide) hk'
          subst ha
          obtain ⟨a', n', c', hcs, hn', hrb⟩ := hrd
          subst hcs
          have hxk : recs xs (k + 1) = x := by simp [recs, List.getD, hly]
          have hny : n' = x.length := by have := hrb.1; simp at this; omega
          rw [← hxk] at hrb hny
          refine gc_skip ?_
          refine gx_then ?_
          refine gc_seq ?_
          refine gc_block ?_
          refine gsr ?_
          refine gp zmv ?_
          refine gp (zia) ?_
          refine gp (r_ld1o rfl Ty.row_32 (hra 0 _ rfl) hA) ?_
          refine gp zas ?_
          refine gp zas ?_
          refine gnt ?_
          refine gc_seq ?_
          refine gsr ?_
          refine gp zmv ?_
          refine gp zln ?_
          refine gp zgt ?_
          refine gnt ?_
          refine gif rfl (fun hc44 => ?_) (fun hc44 => ?_)
          · refine gsr ?_
            refine gp zas ?_
            refine gnt ?_
            refine gc_ret ?_
            refine gx_then_ret ?_
            refine gx_block_ret ?_
            refine gx_then_ret ?_
            refine gx_round_ret ?_
            refine gx_block_ret ?_
            refine gx_then_ret ?_
            refine gx_ret1 rfl (by conv => lhs; whnf) ?_
            exact ze ()
          · try simp only at hc44
            have hx31 : (xs.getD k []).length ≤ 31 := show (recs xs (k + 1)).length ≤ 31 by omega
            refine gc_skip ?_
            refine gx_then ?_
            refine gsr ?_
            refine gp zmv ?_
            refine zc (fun x46 => ?_) (c := fun w1 F1 F2 h1 h2 hd hst => record_ok (s := ⟨0, k, recs xs k⟩) h1 hrk)
            refine gp zso ?_
            refine gp zas ?_
            refine gnt ?_
            refine gsr ?_
            refine gp zmv ?_
            refine gp zmv ?_
            refine zc (fun _ => ?_) (c := fun w1 F1 F2 h1 h2 hd hst => put_S (r := recs xs (k + 1)) (dE_put (by omega) (by omega)) h1 (dZ_ok _) (hE.mv hst.still) (hK.mv hst.still) ⟨Int.le_refl 0, show (0 : Int) ≤ 4096 by decide⟩ (by simp only; omega) (hrb.mv hst.still) hn')
            refine gp (r_bool (c := false) (r_nenil rfl (by kernel_rfl)) rfl) ?_
            refine gp zmv ?_
            refine gq zmv ?_
            refine zc (fun _ => ?_) (c := fun w1 F1 F2 h1 h2 hd hst => count_ok h1)
            refine gq zmv ?_
            refine gq zad ?_
            refine gq (r_bool (c := false) zni (by simp)) ?_
            refine gp zpk ?_
            refine gnt ?_
            refine gc_condF rfl rfl ?_
            refine gc_skip ?_
            refine gx_block_normal ?_
            refine gx_then ?_
            refine gc_region ?_
            refine gp zad ?_
            refine gp zmv ?_
            refine gl_nil ?_
            refine zrd (k + 1) ?_ ?_
            · show nl - (k + 1) < nl - k
              omega
            · exact zlp (show k + 1 ≤ nl ∧ ∀ j, j < k + 1 → (xs.getD j []).length ≤ 31 from ⟨by omega, fun j hj => (Nat.lt_succ_iff_lt_or_eq.1 hj).elim (h31 j) fun e => by rw [e]; exact hx31⟩)
        · try simp only at hc38
          have hk' : k = nl := by omega
          refine gc_exit ?_
          refine gx_then_exit ?_
          refine gx_round_exit ?_
          refine gx_block_hit ?_
          refine gx_then ?_
          refine gc_seq ?_
          refine gc_seq ?_
          by_cases hb : both = true
          · refine gc_region ?_
            refine gp zmv ?_
            refine gp zmv ?_
            refine zc (fun _ => ?_) (c := fun w1 F1 F2 h1 h2 hd hst => count_ok h1)
            refine gp (r_int (j := ((k % 2 : Nat) : Int)) zrm rfl) ?_
            refine gp (zba (cs := sc sec0) (by exact rfl)) ?_
            refine zc (fun _ => ?_) (c := fun w1 F1 F2 h1 h2 hd hst => write_ok' (d := dZ (fE xs k)) (i := ((k % 2 : Nat) : Int)) (v := sec0) h1 (dZ_ok _) (hE.mv hst.still))
            rw [dN_wr]
            refine gp (r_bool (c := false) (r_nenil rfl (by kernel_rfl)) rfl) ?_
            refine gp zmv ?_
            refine gq (r_bool (c := true) (zmv rfl) hb) ?_
            refine gq zmv ?_
            refine gq zmv ?_
            refine gq zmv ?_
            refine zc (fun _ => ?_) (c := fun w1 F1 F2 h1 h2 hd hst => count_ok h1)
            refine gq (r_int (j := ((k + 1 : Nat) : Int)) (zad (i := (k : Int)) (j := 1) rfl rfl (wrap_i64 (by omega) (by omega))) (by omega)) ?_
            refine gq (r_int (j := (((k + 1) % 2 : Nat) : Int)) zrm rfl) ?_
            refine gq (zba (cs := sc sec0) (by exact rfl)) ?_
            refine zc (fun _ => ?_) (c := fun w1 F1 F2 h1 h2 hd hst => write_ok' (d := dN xs k) (i := (((k + 1) % 2 : Nat) : Int)) (v := sec0) h1 (dN_ok _ _) (hE.mv hst.still))
            rw [dB_wr]
            refine gq (r_bool (c := false) (r_nenil rfl (by kernel_rfl)) rfl) ?_
            refine gq zpk ?_
            refine gp zpk ?_
            refine gnt ?_
            refine gc_condF rfl rfl ?_
            refine gc_skip ?_
            refine gx_then ?_
            refine gsr ?_
            refine gp zmv ?_
            refine zc (fun _ => ?_) (c := fun w1 F1 F2 h1 h2 hd hst => open_Z (dB_opn xs k) h1 (dB_ok _ _) rfl (hE.mv hst.still) (hK.mv hst.still) rfl)
            refine gp zmv ?_
            refine gp zex ?_
            refine gp zex ?_
            refine gp zas ?_
            refine gp zas ?_
            refine gnt ?_
            refine gc_seq ?_
            refine gsr ?_
            refine gp (r_bool (c := true) (zmv rfl) hb) ?_
            refine gnt ?_
            refine gc_condT rfl rfl ?_
            refine gsr ?_
            refine gp zmv ?_
            refine gp (r_bool (c := true) (r_eqpn rfl Ty.un_29) rfl) ?_
            refine gp zmv ?_
            refine gq zmv ?_
            refine gq (r_bool (c := true) (r_nenil rfl (by kernel_rfl)) rfl) ?_
            refine gp zpk ?_
            refine gp zas ?_
            refine gnt ?_
            refine gc_ret ?_
            refine gx_then_ret ?_
            refine gx_ret1 rfl (by conv => lhs; whnf) ?_
            exact ze ()
          · refine gc_region ?_
            refine gp zmv ?_
            refine gp zmv ?_
            refine zc (fun _ => ?_) (c := fun w1 F1 F2 h1 h2 hd hst => count_ok h1)
            refine gp (r_int (j := ((k % 2 : Nat) : Int)) zrm rfl) ?_
            refine gp (zba (cs := sc sec0) (by exact rfl)) ?_
            refine zc (fun _ => ?_) (c := fun w1 F1 F2 h1 h2 hd hst => write_ok' (d := dZ (fE xs k)) (i := ((k % 2 : Nat) : Int)) (v := sec0) h1 (dZ_ok _) (hE.mv hst.still))
            rw [dN_wr]
            refine gp (r_bool (c := false) (r_nenil rfl (by kernel_rfl)) rfl) ?_
            refine gp zmv ?_
            refine gq (r_bool (c := false) (zmv rfl) (by simpa using hb)) ?_
            refine gq zmv ?_
            refine gn ?_
            refine gn ?_
            refine gn ?_
            refine gn ?_
            refine gn ?_
            refine gn ?_
            refine gn ?_
            refine gn ?_
            refine gq zpk ?_
            refine gp zpk ?_
            refine gnt ?_
            refine gc_condF rfl rfl ?_
            refine gc_skip ?_
            refine gx_then ?_
            refine gsr ?_
            refine gp zmv ?_
            refine zc (fun g82 => ?_) (c := fun w1 F1 F2 h1 h2 hd hst => open_S (dN_opn (by omega) (by omega) (recs_len fun j hj => h31 j (by omega))) h1 (dN_ok _ _) rfl (hE.mv hst.still) (hK.mv hst.still) rfl)
            refine gp zmv ?_
            refine gp zex ?_
            refine gp zex ?_
            refine gp zas ?_
            refine gp zas ?_
            refine gnt ?_
            refine gc_seq ?_
            refine gsr ?_
            refine gp (r_bool (c := false) (zmv rfl) (by simpa using hb)) ?_
            refine gnt ?_
            refine gc_condF rfl rfl ?_
            refine gc_skip ?_
            refine gx_then ?_
            refine gsr ?_
            refine gp zmv ?_
            refine gp (r_bool (c := true) (r_eqnil rfl (by kernel_rfl)) rfl) ?_
            refine gp zmv ?_
            refine gq zmv ?_
            refine zc (fun x96 => ?_) (c := fun w1 F1 F2 h1 h2 hd hst => record_ok (s := ⟨0, k - 1, recs xs (k - 1)⟩) h1 (recs_len fun j hj => h31 j (by omega)))
            refine gq zso ?_
            refine gq zmv ?_
            refine gq (r_bool (c := true) zes (decide_eq_true rfl)) ?_
            refine gp zpk ?_
            refine gp zmv ?_
            refine gq zmv ?_
            refine zc (fun _ => ?_) (c := fun w1 F1 F2 h1 h2 hd hst => count_ok h1)
            refine gq zmv ?_
            refine zc (fun _ => ?_) (c := fun w1 F1 F2 h1 h2 hd hst => count_ok h1)
            refine gq (zsb (i := (k : Int)) (j := 1) rfl rfl (wrap_i64 (by omega) (by omega))) ?_
            refine gq (r_bool (c := true) zei (decide_eq_true (by simp only; omega))) ?_
            refine gp zpk ?_
            refine gp zas ?_
            refine gnt ?_
            refine gc_ret ?_
            refine gx_ret1 rfl (by conv => lhs; whnf) ?_
            exact ze ()

end Go.Proofs.YtffkjjakceojfaaDoor
