/- Walks, by program (wg.py) out of a spec. -/
import Derived.Test.YtffkjjakceojfaaDoorZl
import Derived.Test.YtffkjjakceojfaaDoorEb
namespace Go.Proofs.YtffkjjakceojfaaDoor
open Go
set_option linter.unusedVariables false
set_option linter.unusedSimpArgs false


theorem u64_rng (x : Int) : 0 ≤ IntKind.u64.wrap x ∧ IntKind.u64.wrap x < 18446744073709551616 := by
  simp only [IntKind.wrap, IntKind.bits, IntKind.signed]; simp; omega
theorem u64_mod (a : Int) {m : Nat} (hm : 0 < m) : ∃ l : Nat, (IntKind.u64.wrap a).tmod (m : Int) = (l : Int) ∧ l < m := by
  obtain ⟨h0, _⟩ := u64_rng a
  refine ⟨((IntKind.u64.wrap a).tmod (m : Int)).toNat, by rw [Int.toNat_of_nonneg (Int.tmod_nonneg _ h0)], ?_⟩
  have := Int.tmod_lt_of_pos (IntKind.u64.wrap a) (show (0 : Int) < (m : Int) by omega)
  have := Int.tmod_nonneg (m : Int) h0
  omega

attribute [local irreducible] Gl Gc Gx Gs Runs Wt

set_option maxHeartbeats 400000 in
theorem slotsLast_ok {w : World} {F : Nat → Prop} {n0 : Int} {nr cr : Nat} {ar : Option Addr} {r : List UInt8} {ea : Nat → Addr} (h : stars [] w F) (hN : NErr w (fun k => ¬ F k) ea) (hK : KR w (fun k => ¬ F k)) (hr : RdRow w (fun k => ¬ F k) 1 ar nr (r.map B8)) (hcc : nr ≤ cr) :
    Calls Tryd.prog 6 #[.int .i64 n0, .slice ar nr cr] w (Post w F (fun _ : Unit => .bool true) (fun _ => [])) := by
  have hE := hN.g
  have hnr : nr = r.length := by have := hr.1; simp at this; omega
  obtain ⟨l, hl, hl3⟩ := u64_mod n0 (m := 3) (by decide)
  obtain ⟨c, hc⟩ : ∃ c : Nat, c = 9223372036854775807 - l := ⟨_, rfl⟩
  refine g_enter (env := [(0, .int .i64 n0), (1, .slice ar nr cr)]) Tryd.func6 rfl h Tryd.ntmps6 rfl rfl ?_
  refine gsr ?_
  refine gp zas ?_
  refine gnt ?_
  refine gc_seq ?_
  refine gsr ?_
  refine zc (fun _ => ?_) (c := fun w1 F1 F2 h1 h2 hd hst => alive07_ok h1 (hE.mv hst.still) (hK.mv hst.still))
  refine gp znt ?_
  refine gnt ?_
  refine gc_condF rfl rfl ?_
  refine gc_skip ?_
  refine gx_then ?_
  refine gsr ?_
  refine gp zmv ?_
  refine gp zci ?_
  refine gp (r_int zrm hl) ?_
  refine gp (r_int (j := (l : Int)) zci (wrap_i64 (by omega) (by omega))) ?_
  refine gp zas ?_
  refine gnt ?_
  refine gc_seq ?_
  refine gsr ?_
  refine gp zmv ?_
  refine gp zln ?_
  refine gp zgt ?_
  refine gnt ?_
  refine gif rfl (fun hc17 => ?_) (fun hc17 => ?_)
  · refine gsr ?_
    refine gp zas ?_
    refine gnt ?_
    refine gc_ret ?_
    refine gx_then_ret ?_
    refine gx_ret1 rfl (by conv => lhs; whnf) ?_
    exact ze ()
  · try simp only at hc17
    have hr31 : r.length ≤ 31 := by omega
    refine gc_skip ?_
    refine gx_then ?_
    refine gsr ?_
    refine zc (fun g19 => ?_) (c := fun w1 F1 F2 h1 h2 hd hst => new_ok (n := 2) (ea := ea) h1 (by decide) (by decide))
    refine gp zmv ?_
    refine gp zex ?_
    refine gp zex ?_
    refine gp zas ?_
    refine gp zas ?_
    refine gnt ?_
    refine gc_seq ?_
    refine gsr ?_
    refine gp zmv ?_
    refine gp (r_bool (c := false) (r_nenil rfl (by kernel_rfl)) rfl) ?_
    refine gnt ?_
    refine gc_condF rfl rfl ?_
    refine gc_skip ?_
    refine gx_then ?_
    refine gsr ?_
    refine gp zmv ?_
    refine gp (r_int (j := (c : Int)) zsb (by omega)) ?_
    refine gp zas ?_
    refine gnt ?_
    refine gc_seq ?_
    refine gsr ?_
    refine gp zmv ?_
    refine gp zmv ?_
    refine gp (r_int (j := ((c % 2 : Nat) : Int)) zrm rfl) ?_
    refine gp zmv ?_
    refine gp zmv ?_
    refine zc (fun _ => ?_) (c := fun w1 F1 F2 h1 h2 hd hst => slot_ok (c := (c : Int)) (r := r) h1 (hK.mv hst.still) (hr.mv hst.still) hcc)
    refine zc (fun _ => ?_) (c := fun w1 F1 F2 h1 h2 hd hst => write_ok' (d := dZ fun _ => sec0) (i := ((c % 2 : Nat) : Int)) (v := slotS (c : Int) r) h1 (dZ_ok _) (hE.mv hst.still))
    rw [dG_wr]
    refine gp (r_bool (c := false) (r_nenil rfl (by kernel_rfl)) rfl) ?_
    refine gnt ?_
    refine gc_condF rfl rfl ?_
    refine gc_skip ?_
    refine gx_then ?_
    refine gsr ?_
    refine gp zmv ?_
    refine zc (fun g36 => ?_) (c := fun w1 F1 F2 h1 h2 hd hst => open_S (dG_opn (c := c) (by omega) hr31) h1 (dG_ok _ _) rfl (hE.mv hst.still) (hK.mv hst.still) rfl)
    refine gp zmv ?_
    refine gp zex ?_
    refine gp zex ?_
    refine gp zas ?_
    refine gp zas ?_
    refine gnt ?_
    refine gc_seq ?_
    refine gsr ?_
    refine gp zmv ?_
    refine gp (r_bool (c := false) (r_nenil rfl (by kernel_rfl)) rfl) ?_
    refine gp zmv ?_
    refine gq zmv ?_
    refine gq (r_bool (c := false) (r_eqpn rfl Ty.un_29) rfl) ?_
    refine gp zpk ?_
    refine gp zmv ?_
    refine gq zmv ?_
    refine zc (fun _ => ?_) (c := fun w1 F1 F2 h1 h2 hd hst => count_ok h1)
    refine gq zmv ?_
    refine gq (r_bool (c := false) zni (by simp)) ?_
    refine gp zpk ?_
    refine gnt ?_
    refine gc_condF rfl rfl ?_
    refine gc_skip ?_
    refine gx_then ?_
    refine gc_seq ?_
    refine gsr ?_
    refine gp zmv ?_
    refine gp zmv ?_
    refine gnt ?_
    refine gc_block ?_
    refine gc_loop (α := Nat × DS) (fun q => [pureR (q.1 ≤ l ∧ Calm2 q.2), SlR g36 g19 ⟨0, c + q.1, r⟩, DiskR g19 q.2]) (fun q => [(52, .int .i64 (q.1 : Int))]) [4, 53, 54, 55, 56, 57, 58] (fun q => l - q.1) (0, dG c r) ?_ ?_ ?_
    · refine env_start (by kernel_rfl)
    · exact zlp ⟨Nat.zero_le _, dG_calm c r⟩
    · intro q u
      obtain ⟨k, d⟩ := q
      refine gc_pureR (fun hk => ?_)
      obtain ⟨hk, hd4⟩ := hk
      replace hk : k ≤ l := hk
      replace hd4 : Calm2 d := hd4
      refine gsr ?_
      refine gp zlt ?_
      refine gnt ?_
      refine gc_seq ?_
      refine gif rfl (fun hc53 => ?_) (fun hc53 => ?_)
      · try simp only at hc53
        have hk' : k < l := by omega
        obtain ⟨d2, he, hd2⟩ := put_C (s := ⟨0, c + k, r⟩) (r := r) hd4 rfl (by simp only; omega) hr31
        refine gc_skip ?_
        refine gx_then ?_
        refine gc_seq ?_
        refine gc_block ?_
        refine gsr ?_
        refine gp zmv ?_
        refine gp zmv ?_
        refine zc (fun _ => ?_) (c := fun w1 F1 F2 h1 h2 hd hst => put_S he h1 hd4.ok (hE.mv hst.still) (hK.mv hst.still) ⟨Int.le_refl 0, show (0 : Int) ≤ 4096 by decide⟩ (by simp only; omega) (hr.mv hst.still) hcc)
        refine gp (r_bool (c := false) (r_nenil rfl (by kernel_rfl)) rfl) ?_
        refine gnt ?_
        refine gc_condF rfl rfl ?_
        refine gc_skip ?_
        refine gx_block_normal ?_
        refine gx_then ?_
        refine gc_region ?_
        refine gp zad ?_
        refine gp zmv ?_
        refine gl_nil ?_
        refine zrd ((k + 1, d2)) ?_ ?_
        · show l - (k + 1) < l - k
          omega
        · exact zlp (show k + 1 ≤ l ∧ Calm2 d2 from ⟨by omega, hd2⟩)
      · try simp only at hc53
        have hk' : k = l := by omega
        have hmx : c + k = 9223372036854775807 := by omega
        refine gc_exit ?_
        refine gx_then_exit ?_
        refine gx_round_exit ?_
        refine gx_block_hit ?_
        refine gx_then ?_
        refine gc_seq ?_
        refine gc_regionZ 18 [] ?_
        refine yps 0 rfl zmv ?_
        refine yps 1 rfl zmv ?_
        refine yos 2 rfl ?_
        refine zc (fun _ => ?_) (c := fun w1 F1 F2 h1 h2 hd hst => put_S (s := ⟨0, c + k, r⟩) (put_full hr31 hmx) h1 hd4.ok (hE.mv hst.still) (hK.mv hst.still) ⟨Int.le_refl 0, show (0 : Int) ≤ 4096 by decide⟩ (by simp only; omega) (hr.mv hst.still) hcc)
        refine yxs ?_
        refine yos 3 rfl ?_
        refine zc (fun _ => ?_) (c := fun w1 F1 F2 h1 h2 hd hst => errNum_ok (n := 8) h1 (hN.mv hst.still) (by decide))
        refine yxs ?_
        refine yps 4 rfl (r_bool (c := true) zei (decide_eq_true rfl)) ?_
        refine yps 5 rfl zmv ?_
        refine yps 6 rfl zmv ?_
        refine yos 7 rfl ?_
        refine zc (fun _ => ?_) (c := fun w1 F1 F2 h1 h2 hd hst => count_ok h1)
        refine yxs ?_
        refine yps 8 rfl (r_bool (c := true) zei (decide_eq_true (by simp only; omega))) ?_
        refine yps 9 rfl zpk ?_
        refine yps 10 rfl zmv ?_
        refine yps 11 rfl zmv ?_
        refine yps 14 rfl zmv ?_
        refine yps 15 rfl (r_str rfl Ty.sl_32 Ty.un_5 Ty.un_9 (fun w' hw => hw.rdOld hr)) ?_
        refine yos 12 rfl ?_
        refine zc (fun x71 => ?_) (c := fun w1 F1 F2 h1 h2 hd hst => record_ok (s := ⟨0, c + k, r⟩) h1 hr31)
        refine yxs ?_
        refine yos 13 rfl ?_
        refine gq zso ?_
        refine yxs ?_
        refine yps 16 rfl (r_bool (c := true) zes (decide_eq_true rfl)) ?_
        refine yps 17 rfl zpk ?_
        refine yzs rfl ?_
        refine gp zas ?_
        refine gnt ?_
        refine gc_ret ?_
        refine gx_ret1 rfl (by conv => lhs; whnf) ?_
        exact ze ()

set_option maxHeartbeats 400000 in
theorem slotsRanges_ok {w : World} {F : Nat → Prop} {n0 b n2 : Int} {ea : Nat → Addr} (h : stars [] w F) (hN : NErr w (fun k => ¬ F k) ea) (hK : KR w (fun k => ¬ F k)) :
    Calls Tryd.prog 7 #[.int .i64 n0, .int .i64 b, .int .i64 n2] w (Post w F (fun _ : Unit => .bool true) (fun _ => [])) := by
  have hE := hN.g
  obtain ⟨s0, hs0, hs6⟩ := u64_mod n0 (m := 6) (by decide)
  obtain ⟨l, hl, hl6⟩ := u64_mod n2 (m := 6) (by decide)
  obtain ⟨n, hn⟩ : ∃ n : Nat, n = 1 + s0 := ⟨_, rfl⟩
  have hfr : (dF n).right b = (dR n l).right b := rfl
  refine g_enter (env := [(0, .int .i64 n0), (1, .int .i64 b), (2, .int .i64 n2)]) Tryd.func7 rfl h Tryd.ntmps7 rfl rfl ?_
  refine gsr ?_
  refine gp zas ?_
  refine gnt ?_
  refine gc_seq ?_
  refine gsr ?_
  refine zc (fun _ => ?_) (c := fun w1 F1 F2 h1 h2 hd hst => alive07_ok h1 (hE.mv hst.still) (hK.mv hst.still))
  refine gp znt ?_
  refine gnt ?_
  refine gc_condF rfl rfl ?_
  refine gc_skip ?_
  refine gx_then ?_
  refine gsr ?_
  refine gp zmv ?_
  refine gp zci ?_
  refine gp (r_int zrm hs0) ?_
  refine gp (r_int (j := (s0 : Int)) zci (wrap_i64 (by omega) (by omega))) ?_
  refine gp (r_int (j := (n : Int)) zad (by omega)) ?_
  refine gp zmv ?_
  refine gp zci ?_
  refine gp (r_int zrm hl) ?_
  refine gp (r_int (j := (l : Int)) zci (wrap_i64 (by omega) (by omega))) ?_
  refine gp zas ?_
  refine gp zas ?_
  refine gnt ?_
  refine gsr ?_
  refine gp zmv ?_
  refine zc (fun g25 => ?_) (c := fun w1 F1 F2 h1 h2 hd hst => new_ok (n := n) (ea := ea) h1 (by omega) (by omega))
  refine gp zmv ?_
  refine gp zex ?_
  refine gp zex ?_
  refine gp zas ?_
  refine gp zas ?_
  refine gnt ?_
  refine gc_seq ?_
  refine gsr ?_
  refine gp zmv ?_
  refine gp (r_bool (c := false) (r_nenil rfl (by kernel_rfl)) rfl) ?_
  refine gnt ?_
  refine gc_condF rfl rfl ?_
  refine gc_skip ?_
  refine gx_then ?_
  refine gc_seq ?_
  by_cases hrt : (dF n).right b = true
  · have hrt2 : (dR n l).right b = true := hrt
    obtain ⟨hb0, hb1⟩ := right_iff.1 hrt
    replace hb1 : b < (n : Int) - 1 := hb1
    have hf := fmt_R hrt2
    refine gc_region ?_
    refine gp zmv ?_
    refine gp zmv ?_
    refine zc (fun _ => ?_) (c := fun w1 F1 F2 h1 h2 hd hst => open_Z (dF_opn n b) h1 (dF_ok (by omega)) rfl (hE.mv hst.still) (hK.mv hst.still) hrt)
    refine gp zmv ?_
    refine gp zex ?_
    refine gp zex ?_
    refine gp zas ?_
    refine gp zas ?_
    refine gnt ?_
    refine gsr ?_
    refine gp zmv ?_
    refine gp zmv ?_
    refine zc (fun _ => ?_) (c := fun w1 F1 F2 h1 h2 hd hst => arm_ok (d := dF n) (n := (l : Int)) h1)
    rw [dR_arm]
    refine gnt ?_
    refine gc_seq ?_
    by_cases hl3 : l < 3
    · obtain ⟨D6, h6⟩ : ∃ D, fmt (dR n l) b = (6, D) := ⟨_, Prod.ext (by rw [hf, if_pos hl3]) rfl⟩
      refine gc_region ?_
      refine gp zmv ?_
      refine gp zmv ?_
      refine zc (fun _ => ?_) (c := fun w1 F1 F2 h1 h2 hd hst => format_E h6 (by decide) h1 (dR_ok (by omega) (by omega)) (hE.mv hst.still) (hK.mv hst.still))
      refine gp zmv ?_
      refine gp zex ?_
      refine gp zex ?_
      refine gp zas ?_
      refine gp zas ?_
      refine gnt ?_
      refine gc_seq ?_
      refine gsr ?_
      refine gp zmv ?_
      refine gp (r_bool (c := false) zlt (decide_eq_false (by omega))) ?_
      refine gp zmv ?_
      refine gq zmv ?_
      refine gq zmv ?_
      refine gq zsb ?_
      refine gq (r_bool (c := false) zge (decide_eq_false (by omega))) ?_
      refine gp zpk ?_
      refine gnt ?_
      refine gc_condF rfl rfl ?_
      refine gc_skip ?_
      refine gx_then ?_
      refine gc_seq ?_
      refine gsr ?_
      refine gp zmv ?_
      refine zc (fun _ => ?_) (c := fun w1 F1 F2 h1 h2 hd hst => errNum_ok (n := 7) h1 (hN.mv hst.still) (by decide))
      refine gp (r_bool (c := false) zni rfl) ?_
      refine gnt ?_
      refine gc_condF rfl rfl ?_
      refine gc_skip ?_
      refine gx_then ?_
      refine gc_seq ?_
      refine gsr ?_
      refine gp zmv ?_
      refine gp (r_bool (c := true) zlt (decide_eq_true (by omega))) ?_
      refine gnt ?_
      refine gc_condT rfl rfl ?_
      refine gsr ?_
      refine gp zmv ?_
      refine gp (r_bool (c := true) (r_eqpn rfl Ty.un_29) rfl) ?_
      refine gp zmv ?_
      refine gq zmv ?_
      refine zc (fun _ => ?_) (c := fun w1 F1 F2 h1 h2 hd hst => errNum_ok (n := 6) h1 (hN.mv hst.still) (by decide))
      refine gq (r_bool (c := true) zei (decide_eq_true rfl)) ?_
      refine gp zpk ?_
      refine gp zas ?_
      refine gnt ?_
      refine gc_ret ?_
      refine gx_then_ret ?_
      refine gx_ret1 rfl (by conv => lhs; whnf) ?_
      exact ze ()
    · obtain ⟨D0, h0⟩ : ∃ D, fmt (dR n l) b = (0, D) := ⟨_, Prod.ext (by rw [hf, if_neg hl3]) rfl⟩
      refine gc_region ?_
      refine gp zmv ?_
      refine gp zmv ?_
      refine zc (fun g42 => ?_) (c := fun w1 F1 F2 h1 h2 hd hst => format_G h0 h1 (dR_ok (by omega) (by omega)) (hE.mv hst.still) (hK.mv hst.still))
      refine gp zmv ?_
      refine gp zex ?_
      refine gp zex ?_
      refine gp zas ?_
      refine gp zas ?_
      refine gnt ?_
      refine gc_seq ?_
      refine gsr ?_
      refine gp zmv ?_
      refine gp (r_bool (c := false) zlt (decide_eq_false (by omega))) ?_
      refine gp zmv ?_
      refine gq zmv ?_
      refine gq zmv ?_
      refine gq zsb ?_
      refine gq (r_bool (c := false) zge (decide_eq_false (by omega))) ?_
      refine gp zpk ?_
      refine gnt ?_
      refine gc_condF rfl rfl ?_
      refine gc_skip ?_
      refine gx_then ?_
      refine gc_seq ?_
      refine gsr ?_
      refine gp zmv ?_
      refine zc (fun _ => ?_) (c := fun w1 F1 F2 h1 h2 hd hst => errNum_ok (n := 7) h1 (hN.mv hst.still) (by decide))
      refine gp (r_bool (c := false) zni rfl) ?_
      refine gnt ?_
      refine gc_condF rfl rfl ?_
      refine gc_skip ?_
      refine gx_then ?_
      refine gc_seq ?_
      refine gsr ?_
      refine gp zmv ?_
      refine gp (r_bool (c := false) zlt (decide_eq_false (by omega))) ?_
      refine gnt ?_
      refine gc_condF rfl rfl ?_
      refine gc_skip ?_
      refine gx_then ?_
      refine gsr ?_
      refine gp zmv ?_
      refine gp (r_bool (c := true) (r_eqnil rfl (by kernel_rfl)) rfl) ?_
      refine gp zmv ?_
      refine gq zmv ?_
      refine gq (r_bool (c := true) (r_nepn rfl Ty.un_29) rfl) ?_
      refine gp zpk ?_
      refine gp zmv ?_
      refine gq zmv ?_
      refine zc (fun x85 => ?_) (c := fun w1 F1 F2 h1 h2 hd hst => record_ok (s := ⟨b, 0, []⟩) h1 (by simp))
      refine gq zln ?_
      refine gq (r_bool (c := true) zei (decide_eq_true rfl)) ?_
      refine gp zpk ?_
      refine gp zmv ?_
      refine gq zmv ?_
      refine zc (fun _ => ?_) (c := fun w1 F1 F2 h1 h2 hd hst => count_ok h1)
      refine gq (r_bool (c := true) zei (decide_eq_true rfl)) ?_
      refine gp zpk ?_
      refine gp zas ?_
      refine gnt ?_
      refine gc_ret ?_
      refine gx_ret1 rfl (by conv => lhs; whnf) ?_
      exact ze ()
  · have hrf : (dF n).right b = false := by simpa using hrt
    have hrf2 : (dR n l).right b = false := hrf
    have hnr : ¬ (0 ≤ b ∧ b < (n : Int) - 1) := fun hx => hrt (right_iff.2 hx)
    refine gc_region ?_
    refine gp zmv ?_
    refine gp zmv ?_
    refine zc (fun _ => ?_) (c := fun w1 F1 F2 h1 h2 hd hst => open_no (b := b) h1 (dF_ok (by omega)) (hE.mv hst.still) hrf)
    refine gp zmv ?_
    refine gp zex ?_
    refine gp zex ?_
    refine gp zas ?_
    refine gp zas ?_
    refine gnt ?_
    refine gsr ?_
    refine gp zmv ?_
    refine gp zmv ?_
    refine zc (fun _ => ?_) (c := fun w1 F1 F2 h1 h2 hd hst => arm_ok (d := dF n) (n := (l : Int)) h1)
    rw [dR_arm]
    refine gnt ?_
    refine gsr ?_
    refine gp zmv ?_
    refine gp zmv ?_
    refine zc (fun _ => ?_) (c := fun w1 F1 F2 h1 h2 hd hst => format_E (fmt_N hrf2) (by decide) h1 (dR_ok (by omega) (by omega)) (hE.mv hst.still) (hK.mv hst.still))
    refine gp zmv ?_
    refine gp zex ?_
    refine gp zex ?_
    refine gp zas ?_
    refine gp zas ?_
    refine gnt ?_
    refine gc_seq ?_
    refine gc_seq ?_
    by_cases hb0 : b < 0
    · refine gc_region ?_
      refine gp zmv ?_
      refine gp (r_bool (c := true) zlt (decide_eq_true hb0)) ?_
      refine gp zmv ?_
      refine gn ?_
      refine gn ?_
      refine gn ?_
      refine gn ?_
      refine gp zpk ?_
      refine gnt ?_
      refine gc_condT rfl rfl ?_
      refine gsr ?_
      refine gp zmv ?_
      refine gp (r_bool (c := true) (r_eqpn rfl Ty.un_29) rfl) ?_
      refine gp zmv ?_
      refine gq zmv ?_
      refine zc (fun _ => ?_) (c := fun w1 F1 F2 h1 h2 hd hst => errNum_ok (n := 1) h1 (hN.mv hst.still) (by decide))
      refine gq (r_bool (c := true) zei (decide_eq_true rfl)) ?_
      refine gp zpk ?_
      refine gp zmv ?_
      refine gq zmv ?_
      refine zc (fun _ => ?_) (c := fun w1 F1 F2 h1 h2 hd hst => errNum_ok (n := 1) h1 (hN.mv hst.still) (by decide))
      refine gq (r_bool (c := true) zei (decide_eq_true rfl)) ?_
      refine gp zpk ?_
      refine gp zas ?_
      refine gnt ?_
      refine gc_ret ?_
      refine gx_then_ret ?_
      refine gx_ret1 rfl (by conv => lhs; whnf) ?_
      exact ze ()
    · refine gc_region ?_
      refine gp zmv ?_
      refine gp (r_bool (c := false) zlt (decide_eq_false hb0)) ?_
      refine gp zmv ?_
      refine gq zmv ?_
      refine gq zmv ?_
      refine gq zsb ?_
      refine gq (r_bool (c := true) zge (decide_eq_true (by omega))) ?_
      refine gp zpk ?_
      refine gnt ?_
      refine gc_condT rfl rfl ?_
      refine gsr ?_
      refine gp zmv ?_
      refine gp (r_bool (c := true) (r_eqpn rfl Ty.un_29) rfl) ?_
      refine gp zmv ?_
      refine gq zmv ?_
      refine zc (fun _ => ?_) (c := fun w1 F1 F2 h1 h2 hd hst => errNum_ok (n := 1) h1 (hN.mv hst.still) (by decide))
      refine gq (r_bool (c := true) zei (decide_eq_true rfl)) ?_
      refine gp zpk ?_
      refine gp zmv ?_
      refine gq zmv ?_
      refine zc (fun _ => ?_) (c := fun w1 F1 F2 h1 h2 hd hst => errNum_ok (n := 1) h1 (hN.mv hst.still) (by decide))
      refine gq (r_bool (c := true) zei (decide_eq_true rfl)) ?_
      refine gp zpk ?_
      refine gp zas ?_
      refine gnt ?_
      refine gc_ret ?_
      refine gx_then_ret ?_
      refine gx_ret1 rfl (by conv => lhs; whnf) ?_
      exact ze ()

end Go.Proofs.YtffkjjakceojfaaDoor
