/- Part 6. What is proved: see the last part: for every input the law returns true, and the input reads as it did. -/
import Derived.Test.YtobjojeliibinaaGreatDoorCl5
/- Walks, by program (wg.py) out of a spec. -/
namespace Go.Proofs.YtobjojeliibinaaGreatDoor
open Go
set_option linter.unusedVariables false
set_option linter.unusedSimpArgs false

attribute [local irreducible] Gl Gc Gx Gs Runs Wt

set_option maxHeartbeats 400000 in
theorem sameSig_ok {w : World} {F : Nat → Prop} {cs1 cs2 : List Value} {x y : Sig} (h : stars [] w F) (hx : RdSig w (fun k => ¬ F k) cs1 x) (hy : RdSig w (fun k => ¬ F k) cs2 y) :
    Calls Tryz.prog 119 #[.agg cs1.toArray, .agg cs2.toArray] w (Post w F (fun _ : Unit => .bool (decide (x = y))) (fun _ => [])) := by
  obtain ⟨a1, n1, c1, a2, n2, c2, rfl, hk1, hk2, hd1, hd2⟩ := hx
  obtain ⟨b1, m1, d1, b2, m2, d2, rfl, hj1, hj2, he1, he2⟩ := hy
  refine g_enter (env := [(0, .agg (List.toArray ([.int .i64 x.leaf, .slice a1 n1 c1, .slice a2 n2 c2]))), (1, .agg (List.toArray ([.int .i64 y.leaf, .slice b1 m1 d1, .slice b2 m2 d2])))]) Tryz.func119 rfl h Tryz.ntmps119 rfl rfl ?_
  refine gsr ?_
  refine zbN fun b2 => ?_
  refine zbN fun b3 => ?_
  refine gp zas ?_
  refine gnt ?_
  refine gc_seq ?_
  by_cases hsq0 : x.leaf = y.leaf
  · by_cases hsq1 : x.chains = y.chains
    · refine gc_region ?_
      refine gp zfa ?_
      refine gp zl ?_
      refine gp zfa ?_
      refine gp zl ?_
      refine gp (r_bool (r_eql_int rfl rfl) (decide_eq_true hsq0)) ?_
      refine gp zmv ?_
      refine gq zfa ?_
      refine gq zl ?_
      refine gq zfa ?_
      refine gq zl ?_
      refine zc (fun _ => ?_) (c := fun w1 F1 F2 h1 h2 hd hst => sameDigs_ok h1 (hd1.mv hst.still) (he1.mv hst.still))
      rw [decide_eq_true hsq1]
      refine gp zpk ?_
      refine gp zmv ?_
      refine gq zfa ?_
      refine gq zl ?_
      refine gq zfa ?_
      refine gq zl ?_
      refine zc (fun _ => ?_) (c := fun w1 F1 F2 h1 h2 hd hst => sameDigs_ok h1 (hd2.mv hst.still) (he2.mv hst.still))
      refine gp zpk ?_
      refine gp zas ?_
      refine gnt ?_
      refine gc_ret ?_
      refine gx_ret1 rfl (by conv => lhs; whnf) ?_
      have e : decide (x = y) = decide (x.path = y.path) := by obtain ⟨⟩ := x; obtain ⟨⟩ := y; simp_all
      rw [e]
      exact ze ()
    · refine gc_region ?_
      refine gp zfa ?_
      refine gp zl ?_
      refine gp zfa ?_
      refine gp zl ?_
      refine gp (r_bool (r_eql_int rfl rfl) (decide_eq_true hsq0)) ?_
      refine gp zmv ?_
      refine gq zfa ?_
      refine gq zl ?_
      refine gq zfa ?_
      refine gq zl ?_
      refine zc (fun _ => ?_) (c := fun w1 F1 F2 h1 h2 hd hst => sameDigs_ok h1 (hd1.mv hst.still) (he1.mv hst.still))
      rw [decide_eq_false hsq1]
      refine gp zpk ?_
      refine gp zmv ?_
      refine gn ?_
      refine gn ?_
      refine gn ?_
      refine gn ?_
      refine gn ?_
      refine gp zpk ?_
      refine gp zas ?_
      refine gnt ?_
      refine gc_ret ?_
      refine gx_ret1 rfl (by conv => lhs; whnf) ?_
      have e : decide (x = y) = false := decide_eq_false (fun h => hsq1 (by rw [h]))
      rw [e]
      exact ze ()
  · refine gc_region ?_
    refine gp zfa ?_
    refine gp zl ?_
    refine gp zfa ?_
    refine gp zl ?_
    refine gp (r_bool (r_eql_int rfl rfl) (decide_eq_false hsq0)) ?_
    refine gp zmv ?_
    refine gn ?_
    refine gn ?_
    refine gn ?_
    refine gn ?_
    refine gn ?_
    refine gp zpk ?_
    refine gp zmv ?_
    refine gn ?_
    refine gn ?_
    refine gn ?_
    refine gn ?_
    refine gn ?_
    refine gp zpk ?_
    refine gp zas ?_
    refine gnt ?_
    refine gc_ret ?_
    refine gx_ret1 rfl (by conv => lhs; whnf) ?_
    have e : decide (x = y) = false := decide_eq_false (fun h => hsq0 (by rw [h]))
    rw [e]
    exact ze ()

set_option maxHeartbeats 400000 in
theorem sameSigneds_ok {w : World} {F : Nat → Prop} {n1 c1 n2 c2 : Nat} {a1 a2 : Option Addr} {l1 l2 : List Signed} (h : stars [] w F) (hx : RdList (RdSigned w (fun k => ¬ F k)) w (fun k => ¬ F k) 4 a1 n1 l1) (hy : RdList (RdSigned w (fun k => ¬ F k)) w (fun k => ¬ F k) 4 a2 n2 l2) :
    Calls Tryz.prog 75 #[.slice a1 n1 c1, .slice a2 n2 c2] w (Post w F (fun _ : Unit => .bool (decide (l1 = l2))) (fun _ => [])) := by
  have hn1 := hx.len (by decide)
  have hn2 := hy.len (by decide)
  have hm1 := hx.max
  simp only [maxLen] at hm1
  refine g_enter (env := [(0, .slice a1 n1 c1), (1, .slice a2 n2 c2)]) Tryz.func75 rfl h Tryz.ntmps75 rfl rfl ?_
  refine gsr ?_
  refine gp zas ?_
  refine gnt ?_
  refine gc_seq ?_
  refine gsr ?_
  refine gp zmv ?_
  refine gp zln ?_
  refine gp zmv ?_
  refine gp zln ?_
  refine gp zni ?_
  refine gnt ?_
  refine gif rfl (fun hc10 => ?_) (fun hc10 => ?_)
  · refine gsr ?_
    refine gp zas ?_
    refine gnt ?_
    refine gc_ret ?_
    refine gx_then_ret ?_
    refine gx_ret1 rfl (by conv => lhs; whnf) ?_
    have e : decide (l1 = l2) = false := decide_eq_false (fun h => by rw [h] at hn1; (try simp only at hc10); omega)
    rw [e]
    exact ze ()
  · have hnn : n1 = n2 := by (try simp only at hc10); omega
    refine gc_skip ?_
    refine gx_then ?_
    refine gc_seq ?_
    refine gsr ?_
    refine gp zmv ?_
    refine gp zln ?_
    refine gp zmv ?_
    refine gnt ?_
    refine gc_block ?_
    refine gc_loop (α := Nat) (fun k => [pureR (k ≤ n1 ∧ l1.take k = l2.take k)]) (fun k => [(13, .int .i64 (k : Int))]) [4, 5, 14, 15, 16, 17, 18, 19, 20, 21, 22, 23, 24, 25, 26, 27, 28, 29, 30, 31, 32, 33, 34, 35, 36, 37, 38, 39, 40, 41] (fun k => n1 - k) 0 ?_ ?_ ?_
    · refine env_start (by kernel_rfl)
    · rintro w' hw
      obtain ⟨F', hF', hst'⟩ := hw.sel (M := []) (by repeat (first | exact Sel.nil | (apply Sel.cons; · (repeat (first | exact Pick.here | apply Pick.there)))))
      exact ⟨F', stars_pure_mk ⟨Nat.zero_le _, rfl⟩ hF', hst'⟩
    · intro k u
      refine gc_pureR (fun hk => ?_)
      replace hk : k ≤ n1 ∧ l1.take k = l2.take k := hk
      refine gsr ?_
      refine gp zlt ?_
      refine gnt ?_
      refine gc_seq ?_
      refine gif rfl (fun hc14 => ?_) (fun hc14 => ?_)
      · have hk' : k < n1 := by (try simp only at hc14); omega
        obtain ⟨g1, o1, cs1, x, ha1, hA1, hg1, hra1, hcl1, hl1, hrd1⟩ := hx.elem (by decide) hk'
        obtain ⟨g2, o2, cs2, y, ha2, hA2, hg2, hra2, hcl2, hl2, hrd2⟩ := hy.elem (i := k) (by decide) (by omega)
        subst ha1
        subst ha2
        obtain ⟨s1, rfl, hs1⟩ := hrd1
        obtain ⟨s2, rfl, hs2⟩ := hrd2
        refine gc_skip ?_
        refine gx_then ?_
        refine gc_seq ?_
        refine gc_block ?_
        refine gsr ?_
        refine gp zmv ?_
        refine gp zas ?_
        refine gnt ?_
        refine gc_seq ?_
        by_cases hsp6 : x.who = y.who
        · refine gc_regionT 22 (by kernel_rfl) (by kernel_rfl) ?_
          refine sp zmv ?_
          refine sp zmv ?_
          refine sp (r_indexAddr_slice rfl rfl Ty.sl_24 Ty.sz_140 (by omega) (by omega)) ?_
          refine sp zfa ?_
          refine sp (r_ld1o rfl Ty.row_3 (range_at hra1 (j := 0) (by first | rfl | (simp only [List.getElem?_cons_succ, List.getElem?_cons_zero, List.cons_append, List.append_assoc, get_dc, get_L, Nat.reduceLeDiff, Nat.reduceSub, Nat.reduceAdd, Nat.le_refl]; rfl))) hA1) ?_
          refine sp zmv ?_
          refine sp zmv ?_
          refine sp (r_indexAddr_slice rfl rfl Ty.sl_24 Ty.sz_140 (by omega) (by omega)) ?_
          refine sp zfa ?_
          refine sp (r_ld1o rfl Ty.row_3 (range_at hra2 (j := 0) (by first | rfl | (simp only [List.getElem?_cons_succ, List.getElem?_cons_zero, List.cons_append, List.append_assoc, get_dc, get_L, Nat.reduceLeDiff, Nat.reduceSub, Nat.reduceAdd, Nat.le_refl]; rfl))) hA2) ?_
          refine sp (r_bool (b := !decide (x.who = y.who)) (c := false) (r_neq_int rfl rfl) (by simp [hsp6])) ?_
          refine sp zmv ?_
          refine sq zmv ?_
          refine sq zmv ?_
          refine sq (r_indexAddr_slice rfl rfl Ty.sl_24 Ty.sz_140 (by omega) (by omega)) ?_
          refine sq zfa ?_
          refine sq (r_ldNo rfl Ty.row_138 Ty.sz_138 (range_right (xs := [_]) hra1) hs1.len (by decide) hA1) ?_
          refine sq zmv ?_
          refine sq zmv ?_
          refine sq (r_indexAddr_slice rfl rfl Ty.sl_24 Ty.sz_140 (by omega) (by omega)) ?_
          refine sq zfa ?_
          refine sq (r_ldNo rfl Ty.row_138 Ty.sz_138 (range_right (xs := [_]) hra2) hs2.len (by decide) hA2) ?_
          refine gs_nil ?_
          refine zc (fun _ => ?_) (c := fun w1 F1 F2 h1 h2 hd hst => sameSig_ok (x := x.sig) (y := y.sig) h1 (hs1.mv hst.still) (hs2.mv hst.still))
          refine gq znt ?_
          refine gp zpk ?_
          refine gnt ?_
          refine gif rfl (fun hc40 => ?_) (fun hc40 => ?_)
          · refine gsr ?_
            refine gp zas ?_
            refine gnt ?_
            refine gc_ret ?_
            refine gx_block_ret ?_
            refine gx_then_ret ?_
            refine gx_round_ret ?_
            refine gx_block_ret ?_
            refine gx_then_ret ?_
            refine gx_ret1 rfl (by conv => lhs; whnf) ?_
            have e : decide (l1 = l2) = false := decide_eq_false (fun h => by rw [h, hl2] at hl1; exact (by simpa using hc40 : ¬ x.sig = y.sig) (by rw [Option.some.inj hl1]))
            rw [e]
            exact ze ()
          · refine gc_skip ?_
            refine gx_block_normal ?_
            refine gx_then ?_
            refine gc_region ?_
            refine gp zad ?_
            refine gp zmv ?_
            refine gl_nil ?_
            refine zrd (k + 1) ?_ ?_
            · show n1 - (k + 1) < n1 - k
              omega
            · rintro w' hw
              obtain ⟨F', hF', hst'⟩ := hw.sel (M := []) (by repeat (first | exact Sel.nil | (apply Sel.cons; · (repeat (first | exact Pick.here | apply Pick.there)))))
              refine ⟨F', stars_pure_mk ⟨show k + 1 ≤ n1 by omega, ?_⟩ hF', hst'⟩
              have hxy : x = y := by (cases x; cases y; simp_all)
              subst hxy
              exact take_eq_succ hk.2 hl1 hl2
        · refine gc_regionT 22 (by kernel_rfl) (by kernel_rfl) ?_
          refine sp zmv ?_
          refine sp zmv ?_
          refine sp (r_indexAddr_slice rfl rfl Ty.sl_24 Ty.sz_140 (by omega) (by omega)) ?_
          refine sp zfa ?_
          refine sp (r_ld1o rfl Ty.row_3 (range_at hra1 (j := 0) (by first | rfl | (simp only [List.getElem?_cons_succ, List.getElem?_cons_zero, List.cons_append, List.append_assoc, get_dc, get_L, Nat.reduceLeDiff, Nat.reduceSub, Nat.reduceAdd, Nat.le_refl]; rfl))) hA1) ?_
          refine sp zmv ?_
          refine sp zmv ?_
          refine sp (r_indexAddr_slice rfl rfl Ty.sl_24 Ty.sz_140 (by omega) (by omega)) ?_
          refine sp zfa ?_
          refine sp (r_ld1o rfl Ty.row_3 (range_at hra2 (j := 0) (by first | rfl | (simp only [List.getElem?_cons_succ, List.getElem?_cons_zero, List.cons_append, List.append_assoc, get_dc, get_L, Nat.reduceLeDiff, Nat.reduceSub, Nat.reduceAdd, Nat.le_refl]; rfl))) hA2) ?_
          refine sp (r_bool (b := !decide (x.who = y.who)) (c := true) (r_neq_int rfl rfl) (by simp [hsp6])) ?_
          refine sp zmv ?_
          refine sn ?_
          refine sn ?_
          refine sn ?_
          refine sn ?_
          refine sn ?_
          refine sn ?_
          refine sn ?_
          refine sn ?_
          refine sn ?_
          refine sn ?_
          refine gs_nil ?_
          refine gn ?_
          refine gn ?_
          refine gp zpk ?_
          refine gnt ?_
          refine gc_condT rfl rfl ?_
          refine gsr ?_
          refine gp zas ?_
          refine gnt ?_
          refine gc_ret ?_
          refine gx_block_ret ?_
          refine gx_then_ret ?_
          refine gx_round_ret ?_
          refine gx_block_ret ?_
          refine gx_then_ret ?_
          refine gx_ret1 rfl (by conv => lhs; whnf) ?_
          have e : decide (l1 = l2) = false := decide_eq_false (fun h => by rw [h, hl2] at hl1; exact hsp6 (by rw [Option.some.inj hl1]))
          rw [e]
          exact ze ()
      · refine gc_exit ?_
        refine gx_then_exit ?_
        refine gx_round_exit ?_
        refine gx_block_hit ?_
        refine gx_then ?_
        refine gsr ?_
        refine gp zas ?_
        refine gnt ?_
        refine gc_ret ?_
        refine gx_ret1 rfl (by conv => lhs; whnf) ?_
        have e : decide (l1 = l2) = true := decide_eq_true (by have h1 := hk.2; have hk' : k = n1 := (by (try simp only at hc14); omega); rw [List.take_of_length_le (by omega), List.take_of_length_le (by omega)] at h1; exact h1)
        rw [e]
        exact ze ()

set_option maxHeartbeats 400000 in
theorem sameQC_ok {w : World} {F : Nat → Prop} {cs1 cs2 : List Value} {x y : QC} (h : stars [] w F) (hx : RdQC w (fun k => ¬ F k) cs1 x) (hy : RdQC w (fun k => ¬ F k) cs2 y) :
    Calls Tryz.prog 22 #[.agg cs1.toArray, .agg cs2.toArray] w (Post w F (fun _ : Unit => .bool (decide (x = y))) (fun _ => [])) := by
  obtain ⟨a1, n1, c1, rfl, hk1, hd1⟩ := hx
  obtain ⟨b1, m1, d1, rfl, hj1, he1⟩ := hy
  refine g_enter (env := [(0, .agg (List.toArray (.int .i64 x.epoch :: .int .i64 x.round :: (dc x.block ++ [.slice a1 n1 c1])))), (1, .agg (List.toArray (.int .i64 y.epoch :: .int .i64 y.round :: (dc y.block ++ [.slice b1 m1 d1]))))]) Tryz.func22 rfl h Tryz.ntmps22 rfl rfl ?_
  refine gsr ?_
  refine zbN fun b2 => ?_
  refine zbN fun b3 => ?_
  refine gp zas ?_
  refine gnt ?_
  refine gc_seq ?_
  by_cases hsq0 : x.epoch = y.epoch
  · by_cases hsq1 : x.round = y.round
    · by_cases hsq2 : x.block = y.block
      · refine gc_region ?_
        refine gp zfa ?_
        refine gp zl ?_
        refine gp zfa ?_
        refine gp zl ?_
        refine gp (r_bool (r_eql_int rfl rfl) (decide_eq_true hsq0)) ?_
        refine gp zmv ?_
        refine gq zfa ?_
        refine gq zl ?_
        refine gq zfa ?_
        refine gq zl ?_
        refine gq (r_bool (r_eql_int rfl rfl) (decide_eq_true hsq1)) ?_
        refine gp zpk ?_
        refine gp zmv ?_
        refine gq zfa ?_
        refine gq zL ?_
        refine gq zfa ?_
        refine gq zL ?_
        refine gq (r_bool (r_eql_dig rfl rfl Ty.arr_23 Ty.un_5 Ty.sz_5 (by kernel_rfl)) (decide_eq_true hsq2)) ?_
        refine gp zpk ?_
        refine gp zmv ?_
        refine gq zfa ?_
        refine gq zl ?_
        refine gq zfa ?_
        refine gq zl ?_
        refine zc (fun _ => ?_) (c := fun w1 F1 F2 h1 h2 hd hst => sameSigneds_ok h1 (RdList.mv hd1 hst.still fun _ _ h => h.mv hst.still) (RdList.mv he1 hst.still fun _ _ h => h.mv hst.still))
        refine gp zpk ?_
        refine gp zas ?_
        refine gnt ?_
        refine gc_ret ?_
        refine gx_ret1 rfl (by conv => lhs; whnf) ?_
        have e : decide (x = y) = decide (x.votes = y.votes) := by obtain ⟨⟩ := x; obtain ⟨⟩ := y; simp_all
        rw [e]
        exact ze ()
      · refine gc_region ?_
        refine gp zfa ?_
        refine gp zl ?_
        refine gp zfa ?_
        refine gp zl ?_
        refine gp (r_bool (r_eql_int rfl rfl) (decide_eq_true hsq0)) ?_
        refine gp zmv ?_
        refine gq zfa ?_
        refine gq zl ?_
        refine gq zfa ?_
        refine gq zl ?_
        refine gq (r_bool (r_eql_int rfl rfl) (decide_eq_true hsq1)) ?_
        refine gp zpk ?_
        refine gp zmv ?_
        refine gq zfa ?_
        refine gq zL ?_
        refine gq zfa ?_
        refine gq zL ?_
        refine gq (r_bool (r_eql_dig rfl rfl Ty.arr_23 Ty.un_5 Ty.sz_5 (by kernel_rfl)) (decide_eq_false hsq2)) ?_
        refine gp zpk ?_
        refine gp zmv ?_
        refine gn ?_
        refine gn ?_
        refine gn ?_
        refine gn ?_
        refine gn ?_
        refine gp zpk ?_
        refine gp zas ?_
        refine gnt ?_
        refine gc_ret ?_
        refine gx_ret1 rfl (by conv => lhs; whnf) ?_
        have e : decide (x = y) = false := decide_eq_false (fun h => hsq2 (by rw [h]))
        rw [e]
        exact ze ()
    · refine gc_region ?_
      refine gp zfa ?_
      refine gp zl ?_
      refine gp zfa ?_
      refine gp zl ?_
      refine gp (r_bool (r_eql_int rfl rfl) (decide_eq_true hsq0)) ?_
      refine gp zmv ?_
      refine gq zfa ?_
      refine gq zl ?_
      refine gq zfa ?_
      refine gq zl ?_
      refine gq (r_bool (r_eql_int rfl rfl) (decide_eq_false hsq1)) ?_
      refine gp zpk ?_
      refine gp zmv ?_
      refine gn ?_
      refine gn ?_
      refine gn ?_
      refine gn ?_
      refine gn ?_
      refine gp zpk ?_
      refine gp zmv ?_
      refine gn ?_
      refine gn ?_
      refine gn ?_
      refine gn ?_
      refine gn ?_
      refine gp zpk ?_
      refine gp zas ?_
      refine gnt ?_
      refine gc_ret ?_
      refine gx_ret1 rfl (by conv => lhs; whnf) ?_
      have e : decide (x = y) = false := decide_eq_false (fun h => hsq1 (by rw [h]))
      rw [e]
      exact ze ()
  · refine gc_region ?_
    refine gp zfa ?_
    refine gp zl ?_
    refine gp zfa ?_
    refine gp zl ?_
    refine gp (r_bool (r_eql_int rfl rfl) (decide_eq_false hsq0)) ?_
    refine gp zmv ?_
    refine gn ?_
    refine gn ?_
    refine gn ?_
    refine gn ?_
    refine gn ?_
    refine gp zpk ?_
    refine gp zmv ?_
    refine gn ?_
    refine gn ?_
    refine gn ?_
    refine gn ?_
    refine gn ?_
    refine gp zpk ?_
    refine gp zmv ?_
    refine gn ?_
    refine gn ?_
    refine gn ?_
    refine gn ?_
    refine gn ?_
    refine gp zpk ?_
    refine gp zas ?_
    refine gnt ?_
    refine gc_ret ?_
    refine gx_ret1 rfl (by conv => lhs; whnf) ?_
    have e : decide (x = y) = false := decide_eq_false (fun h => hsq0 (by rw [h]))
    rw [e]
    exact ze ()

set_option maxHeartbeats 400000 in
theorem sameBlock_ok {w : World} {F : Nat → Prop} {cs1 cs2 : List Value} {x y : Block} (h : stars [] w F) (hx : RdBlock w (fun k => ¬ F k) cs1 x) (hy : RdBlock w (fun k => ¬ F k) cs2 y) :
    Calls Tryz.prog 79 #[.agg cs1.toArray, .agg cs2.toArray] w (Post w F (fun _ : Unit => .bool (decide (x = y))) (fun _ => [])) := by
  obtain ⟨q, a1, n1, c1, a2, n2, c2, rfl, hq, hk1, hd1, hk2, hd2⟩ := hx
  obtain ⟨r, b1, m1, d1, b2, m2, d2, rfl, hr, hj1, he1, hj2, he2⟩ := hy
  have lq := hq.len
  have lr := hr.len
  have z_lq := Len.of lq
  have z_lr := Len.of lr
  refine g_enter (env := [(0, .agg (List.toArray (.int .i64 x.epoch :: .int .i64 x.round :: (dc x.parent ++ (q ++ [.slice a1 n1 c1, .slice a2 n2 c2]))))), (1, .agg (List.toArray (.int .i64 y.epoch :: .int .i64 y.round :: (dc y.parent ++ (r ++ [.slice b1 m1 d1, .slice b2 m2 d2])))))]) Tryz.func79 rfl h Tryz.ntmps79 rfl rfl ?_
  refine gsr ?_
  refine zbN fun b2 => ?_
  refine zbN fun b3 => ?_
  refine gp zas ?_
  refine gnt ?_
  refine gc_seq ?_
  by_cases hsq0 : x.epoch = y.epoch
  · by_cases hsq1 : x.round = y.round
    · by_cases hsq2 : x.parent = y.parent
      · by_cases hsq3 : x.justify = y.justify
        · by_cases hsq4 : x.payload = y.payload
          · refine gc_region ?_
            refine gp zfa ?_
            refine gp zl ?_
            refine gp zfa ?_
            refine gp zl ?_
            refine gp (r_bool (r_eql_int rfl rfl) (decide_eq_true hsq0)) ?_
            refine gp zmv ?_
            refine gq zfa ?_
            refine gq zl ?_
            refine gq zfa ?_
            refine gq zl ?_
            refine gq (r_bool (r_eql_int rfl rfl) (decide_eq_true hsq1)) ?_
            refine gp zpk ?_
            refine gp zmv ?_
            refine gq zfa ?_
            refine gq zL ?_
            refine gq zfa ?_
            refine gq zL ?_
            refine gq (r_bool (r_eql_dig rfl rfl Ty.arr_23 Ty.un_5 Ty.sz_5 (by kernel_rfl)) (decide_eq_true hsq2)) ?_
            refine gp zpk ?_
            refine gp zmv ?_
            refine gq zfa ?_
            refine gq zL ?_
            refine gq zfa ?_
            refine gq zL ?_
            refine zc (fun _ => ?_) (c := fun w1 F1 F2 h1 h2 hd hst => sameQC_ok h1 (hq.mv hst.still) (hr.mv hst.still))
            rw [decide_eq_true hsq3]
            refine gp zpk ?_
            refine gp zmv ?_
            refine gq zfa ?_
            refine gq zl ?_
            refine gq zfa ?_
            refine gq zl ?_
            refine zc (fun _ => ?_) (c := fun w1 F1 F2 h1 h2 hd hst => sameLists_ok h1 (RdList.mv hd1 hst.still fun _ _ h => h.mv hst.still) (RdList.mv he1 hst.still fun _ _ h => h.mv hst.still))
            rw [decide_eq_true hsq4]
            refine gp zpk ?_
            refine gp zmv ?_
            refine gq zfa ?_
            refine gq zl ?_
            refine gq zfa ?_
            refine gq zl ?_
            refine zc (fun _ => ?_) (c := fun w1 F1 F2 h1 h2 hd hst => sameVdrs_ok h1 (RdList.mv hd2 hst.still fun _ _ h => h) (RdList.mv he2 hst.still fun _ _ h => h))
            refine gp zpk ?_
            refine gp zas ?_
            refine gnt ?_
            refine gc_ret ?_
            refine gx_ret1 rfl (by conv => lhs; whnf) ?_
            have e : decide (x = y) = decide (x.next = y.next) := by obtain ⟨⟩ := x; obtain ⟨⟩ := y; simp_all
            rw [e]
            exact ze ()
          · refine gc_region ?_
            refine gp zfa ?_
            refine gp zl ?_
            refine gp zfa ?_
            refine gp zl ?_
            refine gp (r_bool (r_eql_int rfl rfl) (decide_eq_true hsq0)) ?_
            refine gp zmv ?_
            refine gq zfa ?_
            refine gq zl ?_
            refine gq zfa ?_
            refine gq zl ?_
            refine gq (r_bool (r_eql_int rfl rfl) (decide_eq_true hsq1)) ?_
            refine gp zpk ?_
            refine gp zmv ?_
            refine gq zfa ?_
            refine gq zL ?_
            refine gq zfa ?_
            refine gq zL ?_
            refine gq (r_bool (r_eql_dig rfl rfl Ty.arr_23 Ty.un_5 Ty.sz_5 (by kernel_rfl)) (decide_eq_true hsq2)) ?_
            refine gp zpk ?_
            refine gp zmv ?_
            refine gq zfa ?_
            refine gq zL ?_
            refine gq zfa ?_
            refine gq zL ?_
            refine zc (fun _ => ?_) (c := fun w1 F1 F2 h1 h2 hd hst => sameQC_ok h1 (hq.mv hst.still) (hr.mv hst.still))
            rw [decide_eq_true hsq3]
            refine gp zpk ?_
            refine gp zmv ?_
            refine gq zfa ?_
            refine gq zl ?_
            refine gq zfa ?_
            refine gq zl ?_
            refine zc (fun _ => ?_) (c := fun w1 F1 F2 h1 h2 hd hst => sameLists_ok h1 (RdList.mv hd1 hst.still fun _ _ h => h.mv hst.still) (RdList.mv he1 hst.still fun _ _ h => h.mv hst.still))
            rw [decide_eq_false hsq4]
            refine gp zpk ?_
            refine gp zmv ?_
            refine gn ?_
            refine gn ?_
            refine gn ?_
            refine gn ?_
            refine gn ?_
            refine gp zpk ?_
            refine gp zas ?_
            refine gnt ?_
            refine gc_ret ?_
            refine gx_ret1 rfl (by conv => lhs; whnf) ?_
            have e : decide (x = y) = false := decide_eq_false (fun h => hsq4 (by rw [h]))
            rw [e]
            exact ze ()
        · refine gc_region ?_
          refine gp zfa ?_
          refine gp zl ?_
          refine gp zfa ?_
          refine gp zl ?_
          refine gp (r_bool (r_eql_int rfl rfl) (decide_eq_true hsq0)) ?_
          refine gp zmv ?_
          refine gq zfa ?_
          refine gq zl ?_
          refine gq zfa ?_
          refine gq zl ?_
          refine gq (r_bool (r_eql_int rfl rfl) (decide_eq_true hsq1)) ?_
          refine gp zpk ?_
          refine gp zmv ?_
          refine gq zfa ?_
          refine gq zL ?_
          refine gq zfa ?_
          refine gq zL ?_
          refine gq (r_bool (r_eql_dig rfl rfl Ty.arr_23 Ty.un_5 Ty.sz_5 (by kernel_rfl)) (decide_eq_true hsq2)) ?_
          refine gp zpk ?_
          refine gp zmv ?_
          refine gq zfa ?_
          refine gq zL ?_
          refine gq zfa ?_
          refine gq zL ?_
          refine zc (fun _ => ?_) (c := fun w1 F1 F2 h1 h2 hd hst => sameQC_ok h1 (hq.mv hst.still) (hr.mv hst.still))
          rw [decide_eq_false hsq3]
          refine gp zpk ?_
          refine gp zmv ?_
          refine gn ?_
          refine gn ?_
          refine gn ?_
          refine gn ?_
          refine gn ?_
          refine gp zpk ?_
          refine gp zmv ?_
          refine gn ?_
          refine gn ?_
          refine gn ?_
          refine gn ?_
          refine gn ?_
          refine gp zpk ?_
          refine gp zas ?_
          refine gnt ?_
          refine gc_ret ?_
          refine gx_ret1 rfl (by conv => lhs; whnf) ?_
          have e : decide (x = y) = false := decide_eq_false (fun h => hsq3 (by rw [h]))
          rw [e]
          exact ze ()
      · refine gc_region ?_
        refine gp zfa ?_
        refine gp zl ?_
        refine gp zfa ?_
        refine gp zl ?_
        refine gp (r_bool (r_eql_int rfl rfl) (decide_eq_true hsq0)) ?_
        refine gp zmv ?_
        refine gq zfa ?_
        refine gq zl ?_
        refine gq zfa ?_
        refine gq zl ?_
        refine gq (r_bool (r_eql_int rfl rfl) (decide_eq_true hsq1)) ?_
        refine gp zpk ?_
        refine gp zmv ?_
        refine gq zfa ?_
        refine gq zL ?_
        refine gq zfa ?_
        refine gq zL ?_
        refine gq (r_bool (r_eql_dig rfl rfl Ty.arr_23 Ty.un_5 Ty.sz_5 (by kernel_rfl)) (decide_eq_false hsq2)) ?_
        refine gp zpk ?_
        refine gp zmv ?_
        refine gn ?_
        refine gn ?_
        refine gn ?_
        refine gn ?_
        refine gn ?_
        refine gp zpk ?_
        refine gp zmv ?_
        refine gn ?_
        refine gn ?_
        refine gn ?_
        refine gn ?_
        refine gn ?_
        refine gp zpk ?_
        refine gp zmv ?_
        refine gn ?_
        refine gn ?_
        refine gn ?_
        refine gn ?_
        refine gn ?_
        refine gp zpk ?_
        refine gp zas ?_
        refine gnt ?_
        refine gc_ret ?_
        refine gx_ret1 rfl (by conv => lhs; whnf) ?_
        have e : decide (x = y) = false := decide_eq_false (fun h => hsq2 (by rw [h]))
        rw [e]
        exact ze ()
    · refine gc_region ?_
      refine gp zfa ?_
      refine gp zl ?_
      refine gp zfa ?_
      refine gp zl ?_
      refine gp (r_bool (r_eql_int rfl rfl) (decide_eq_true hsq0)) ?_
      refine gp zmv ?_
      refine gq zfa ?_
      refine gq zl ?_
      refine gq zfa ?_
      refine gq zl ?_
      refine gq (r_bool (r_eql_int rfl rfl) (decide_eq_false hsq1)) ?_
      refine gp zpk ?_
      refine gp zmv ?_
      refine gn ?_
      refine gn ?_
      refine gn ?_
      refine gn ?_
      refine gn ?_
      refine gp zpk ?_
      refine gp zmv ?_
      refine gn ?_
      refine gn ?_
      refine gn ?_
      refine gn ?_
      refine gn ?_
      refine gp zpk ?_
      refine gp zmv ?_
      refine gn ?_
      refine gn ?_
      refine gn ?_
      refine gn ?_
      refine gn ?_
      refine gp zpk ?_
      refine gp zmv ?_
      refine gn ?_
      refine gn ?_
      refine gn ?_
      refine gn ?_
      refine gn ?_
      refine gp zpk ?_
      refine gp zas ?_
      refine gnt ?_
      refine gc_ret ?_
      refine gx_ret1 rfl (by conv => lhs; whnf) ?_
      have e : decide (x = y) = false := decide_eq_false (fun h => hsq1 (by rw [h]))
      rw [e]
      exact ze ()
  · refine gc_region ?_
    refine gp zfa ?_
    refine gp zl ?_
    refine gp zfa ?_
    refine gp zl ?_
    refine gp (r_bool (r_eql_int rfl rfl) (decide_eq_false hsq0)) ?_
    refine gp zmv ?_
    refine gn ?_
    refine gn ?_
    refine gn ?_
    refine gn ?_
    refine gn ?_
    refine gp zpk ?_
    refine gp zmv ?_
    refine gn ?_
    refine gn ?_
    refine gn ?_
    refine gn ?_
    refine gn ?_
    refine gp zpk ?_
    refine gp zmv ?_
    refine gn ?_
    refine gn ?_
    refine gn ?_
    refine gn ?_
    refine gn ?_
    refine gp zpk ?_
    refine gp zmv ?_
    refine gn ?_
    refine gn ?_
    refine gn ?_
    refine gn ?_
    refine gn ?_
    refine gp zpk ?_
    refine gp zmv ?_
    refine gn ?_
    refine gn ?_
    refine gn ?_
    refine gn ?_
    refine gn ?_
    refine gp zpk ?_
    refine gp zas ?_
    refine gnt ?_
    refine gc_ret ?_
    refine gx_ret1 rfl (by conv => lhs; whnf) ?_
    have e : decide (x = y) = false := decide_eq_false (fun h => hsq0 (by rw [h]))
    rw [e]
    exact ze ()

end Go.Proofs.YtobjojeliibinaaGreatDoor

/- Walks, by program (wg.py) out of a spec. -/
namespace Go.Proofs.YtobjojeliibinaaGreatDoor
open Go
set_option linter.unusedVariables false
set_option linter.unusedSimpArgs false

attribute [local irreducible] Gl Gc Gx Gs Runs Wt

set_option maxHeartbeats 400000 in
theorem bigSig_ok {w : World} {F : Nat → Prop} {cs : List Value} {x : Sig} (h : stars [] w F) (hx : RdSig w (fun k => ¬ F k) cs x) :
    Calls Tryz.prog 67 #[.agg cs.toArray] w (Post w F (fun b : Bool => .bool b) (fun _ => [])) := by
  obtain ⟨a1, n1, c1, a2, n2, c2, rfl, hk1, hk2, hd1, hd2⟩ := hx
  refine g_enter (env := [(0, .agg (List.toArray [.int .i64 x.leaf, .slice a1 n1 c1, .slice a2 n2 c2]))]) Tryz.func67 rfl h Tryz.ntmps67 rfl rfl ?_
  refine gsr ?_
  refine zbN fun b1 => ?_
  refine gp zas ?_
  refine gnt ?_
  refine gc_seq ?_
  by_cases hsp1 : (100 : Int) < (n1 : Int)
  · refine gc_region ?_
    refine gp zfa ?_
    refine gp zl ?_
    refine gp zln ?_
    refine gp (r_bool (r_gtr rfl rfl) (decide_eq_true hsp1)) ?_
    refine gp zmv ?_
    refine gn ?_
    refine gn ?_
    refine gn ?_
    refine gn ?_
    refine gp zpk ?_
    refine gp zas ?_
    refine gnt ?_
    refine gc_ret ?_
    refine gx_ret1 rfl (by conv => lhs; whnf) ?_
    exact ze _
  · refine gc_region ?_
    refine gp zfa ?_
    refine gp zl ?_
    refine gp zln ?_
    refine gp (r_bool (r_gtr rfl rfl) (decide_eq_false hsp1)) ?_
    refine gp zmv ?_
    refine gq zfa ?_
    refine gq zl ?_
    refine gq zln ?_
    refine gq zgt ?_
    refine gp zpk ?_
    refine gp zas ?_
    refine gnt ?_
    refine gc_ret ?_
    refine gx_ret1 rfl (by conv => lhs; whnf) ?_
    exact ze _

set_option maxHeartbeats 400000 in
theorem bigQC_ok {w : World} {F : Nat → Prop} {cs : List Value} {x : QC} (h : stars [] w F) (hx : RdQC w (fun k => ¬ F k) cs x) :
    Calls Tryz.prog 16 #[.agg cs.toArray] w (Post w F (fun b : Bool => .bool b) (fun _ => [])) := by
  obtain ⟨a1, n1, c1, rfl, hk1, hd1⟩ := hx
  have hm1 := hd1.max
  simp only [maxLen] at hm1
  refine g_enter (env := [(0, .agg (List.toArray (.int .i64 x.epoch :: .int .i64 x.round :: (dc x.block ++ [.slice a1 n1 c1]))))]) Tryz.func16 rfl h Tryz.ntmps16 rfl rfl ?_
  refine gsr ?_
  refine zbN fun b1 => ?_
  refine gp zas ?_
  refine gnt ?_
  refine gc_seq ?_
  refine gsr ?_
  refine gp zfa ?_
  refine gp zl ?_
  refine gp zln ?_
  refine gp zgt ?_
  refine gnt ?_
  refine gif rfl (fun hc8 => ?_) (fun hc8 => ?_)
  · refine gsr ?_
    refine gp zas ?_
    refine gnt ?_
    refine gc_ret ?_
    refine gx_then_ret ?_
    refine gx_ret1 rfl (by conv => lhs; whnf) ?_
    exact ze _
  · refine gc_skip ?_
    refine gx_then ?_
    refine gc_seq ?_
    refine gsr ?_
    refine gp zfa ?_
    refine gp zl ?_
    refine gp zln ?_
    refine gp zmv ?_
    refine gnt ?_
    refine gc_block ?_
    refine gc_loop (α := Nat) (fun k => [pureR (k ≤ n1)]) (fun k => [(12, .int .i64 (k : Int))]) [2, 4, 13, 14, 15, 16, 17, 18, 19] (fun k => n1 - k) 0 ?_ ?_ ?_
    · refine env_start (by kernel_rfl)
    · rintro w' hw
      obtain ⟨F', hF', hst'⟩ := hw.sel (M := []) (by repeat (first | exact Sel.nil | (apply Sel.cons; · (repeat (first | exact Pick.here | apply Pick.there)))))
      exact ⟨F', stars_pure_mk (Nat.zero_le _) hF', hst'⟩
    · intro k u
      refine gc_pureR (fun hk => ?_)
      replace hk : k ≤ n1 := hk
      refine gsr ?_
      refine gp zlt ?_
      refine gnt ?_
      refine gc_seq ?_
      refine gif rfl (fun hc13 => ?_) (fun hc13 => ?_)
      · have hk' : k < n1 := by (try simp only at hc13); omega
        obtain ⟨g1, o1, cs1, y, ha1, hA1, hg1, hra1, hcl1, hl1, hrd1⟩ := hd1.elem (by decide) hk'
        subst ha1
        obtain ⟨s1, rfl, hs1⟩ := hrd1
        have ls := hs1.len
        refine gc_skip ?_
        refine gx_then ?_
        refine gc_seq ?_
        refine gc_block ?_
        refine gsr ?_
        refine gp (r_indexAddr_slice rfl rfl Ty.sl_24 Ty.sz_140 (by omega) (by omega)) ?_
        refine gp (r_ldNo rfl Ty.row_140 Ty.sz_140 hra1 hcl1 (by decide) hA1) ?_
        refine zal fun b4 => ?_
        refine gl_storeN (wt0 rfl) rfl rfl Ty.sz_140 hcl1 (by repeat (first | exact Pick.here | apply Pick.there)) (by decide) (all_cons' rfl hs1.one) (updL_all (by rw [hcl1]; rfl)) ?_
        refine gnt ?_
        refine gsr ?_
        refine gp zfa ?_
        refine gp (r_ldN (seg := s1) rfl Ty.row_138 Ty.sz_138 (by repeat (first | exact Pick.here | apply Pick.there)) (by show s1.take 3 = s1; exact List.take_of_length_le (by omega)) ls) ?_
        refine zc (fun r18 => ?_) (c := fun w1 F1 F2 h1 h2 hd hst => bigSig_ok h1 (hs1.mv hst.still))
        refine gnt ?_
        refine gif rfl (fun hc18 => ?_) (fun hc18 => ?_)
        · refine gsr ?_
          refine gp zas ?_
          refine gnt ?_
          refine gc_ret ?_
          refine gx_block_ret ?_
          refine gx_then_ret ?_
          refine gx_round_ret ?_
          refine gx_block_ret ?_
          refine gx_then_ret ?_
          refine gx_ret1 rfl (by conv => lhs; whnf) ?_
          exact ze _
        · refine gc_skip ?_
          refine gx_block_normal ?_
          refine gx_then ?_
          refine gc_region ?_
          refine gp zad ?_
          refine gp zmv ?_
          refine gl_nil ?_
          refine zrd (k + 1) ?_ ?_
          · show n1 - (k + 1) < n1 - k
            omega
          · rintro w' hw
            obtain ⟨F', hF', hst'⟩ := hw.sel (M := []) (by repeat (first | exact Sel.nil | (apply Sel.cons; · (repeat (first | exact Pick.here | apply Pick.there)))))
            exact ⟨F', stars_pure_mk (show k + 1 ≤ n1 by omega) hF', hst'⟩
      · refine gc_exit ?_
        refine gx_then_exit ?_
        refine gx_round_exit ?_
        refine gx_block_hit ?_
        refine gx_then ?_
        refine gsr ?_
        refine gp zas ?_
        refine gnt ?_
        refine gc_ret ?_
        refine gx_ret1 rfl (by conv => lhs; whnf) ?_
        exact ze _

set_option maxHeartbeats 400000 in
theorem bigBlock_ok {w : World} {F : Nat → Prop} {cs : List Value} {x : Block} (h : stars [] w F) (hx : RdBlock w (fun k => ¬ F k) cs x) :
    Calls Tryz.prog 15 #[.agg cs.toArray] w (Post w F (fun b : Bool => .bool b) (fun _ => [])) := by
  obtain ⟨q, a1, n1, c1, a2, n2, c2, rfl, hq, hk1, hd1, hk2, hd2⟩ := hx
  have lq := hq.len
  have hm1 := hd1.max
  simp only [maxLen] at hm1
  have z_lq := Len.of lq
  refine g_enter (env := [(0, .agg (List.toArray (.int .i64 x.epoch :: .int .i64 x.round :: (dc x.parent ++ (q ++ [.slice a1 n1 c1, .slice a2 n2 c2])))))]) Tryz.func15 rfl h Tryz.ntmps15 rfl rfl ?_
  refine gsr ?_
  refine zbN fun b1 => ?_
  refine gp zas ?_
  refine gnt ?_
  refine gc_seq ?_
  refine gc_seq ?_
  by_cases hsp1 : (12 : Int) < (n1 : Int)
  · refine gc_region ?_
    refine gp zfa ?_
    refine gp zl ?_
    refine gp zln ?_
    refine gp (r_bool (r_gtr rfl rfl) (decide_eq_true hsp1)) ?_
    refine gp zmv ?_
    refine gn ?_
    refine gn ?_
    refine gn ?_
    refine gn ?_
    refine gp zpk ?_
    refine gnt ?_
    refine gif rfl (fun hc14 => ?_) (fun hc14 => ?_)
    · refine gsr ?_
      refine gp zas ?_
      refine gnt ?_
      refine gc_ret ?_
      refine gx_then_ret ?_
      refine gx_ret1 rfl (by conv => lhs; whnf) ?_
      exact ze _
    · refine gc_skip ?_
      refine gx_then ?_
      refine gc_seq ?_
      refine gsr ?_
      refine gp zfa ?_
      refine gp zl ?_
      refine gp zln ?_
      refine gp zmv ?_
      refine gnt ?_
      refine gc_block ?_
      refine gc_loop (α := Nat) (fun k => [pureR (k ≤ n1), blk b1 30 (.int .i64 x.epoch :: .int .i64 x.round :: (dc x.parent ++ (q ++ [.slice a1 n1 c1, .slice a2 n2 c2])))]) (fun k => [(18, .int .i64 (k : Int))]) [2, 4, 19, 20, 21, 22, 23, 24, 25] (fun k => n1 - k) 0 ?_ ?_ ?_
      · refine env_start (by kernel_rfl)
      · rintro w' hw
        obtain ⟨F', hF', hst'⟩ := hw.sel (M := [blk b1 _ _]) (by repeat (first | exact Sel.nil | (apply Sel.cons; · (repeat (first | exact Pick.here | apply Pick.there)))))
        exact ⟨F', stars_pure_mk (Nat.zero_le _) hF', hst'⟩
      · intro k u
        refine gc_pureR (fun hk => ?_)
        replace hk : k ≤ n1 := hk
        refine gsr ?_
        refine gp zlt ?_
        refine gnt ?_
        refine gc_seq ?_
        refine gif rfl (fun hc19 => ?_) (fun hc19 => ?_)
        · have hk' : k < n1 := by (try simp only at hc19); omega
          obtain ⟨g1, o1, cs1, y, ha1, hA1, hg1, hra1, hcl1, hl1, hrd1⟩ := hd1.elem (by decide) hk'
          subst ha1
          obtain ⟨a', n', c', rfl, hn', hrb⟩ := hrd1
          refine gc_skip ?_
          refine gx_then ?_
          refine gc_seq ?_
          refine gc_block ?_
          refine gsr ?_
          refine gp (r_indexAddr_slice rfl rfl Ty.sl_27 Ty.sz_86 (by omega) (by omega)) ?_
          refine gp (r_ld1o rfl Ty.row_86 (hra1 0 _ rfl) hA1) ?_
          refine gp zas ?_
          refine gnt ?_
          refine gsr ?_
          refine gp zmv ?_
          refine gp zln ?_
          refine gp zgt ?_
          refine gnt ?_
          refine gif rfl (fun hc24 => ?_) (fun hc24 => ?_)
          · refine gsr ?_
            refine gp zas ?_
            refine gnt ?_
            refine gc_ret ?_
            refine gx_block_ret ?_
            refine gx_then_ret ?_
            refine gx_round_ret ?_
            refine gx_block_ret ?_
            refine gx_then_ret ?_
            refine gx_ret1 rfl (by conv => lhs; whnf) ?_
            exact ze _
          · refine gc_skip ?_
            refine gx_block_normal ?_
            refine gx_then ?_
            refine gc_region ?_
            refine gp zad ?_
            refine gp zmv ?_
            refine gl_nil ?_
            refine zrd (k + 1) ?_ ?_
            · show n1 - (k + 1) < n1 - k
              omega
            · rintro w' hw
              obtain ⟨F', hF', hst'⟩ := hw.sel (M := [blk b1 _ _]) (by repeat (first | exact Sel.nil | (apply Sel.cons; · (repeat (first | exact Pick.here | apply Pick.there)))))
              exact ⟨F', stars_pure_mk (show k + 1 ≤ n1 by omega) hF', hst'⟩
        · refine gc_exit ?_
          refine gx_then_exit ?_
          refine gx_round_exit ?_
          refine gx_block_hit ?_
          refine gx_then ?_
          refine gsr ?_
          refine gp zfa ?_
          refine gp zL ?_
          refine zc (fun r28 => ?_) (c := fun w1 F1 F2 h1 h2 hd hst => bigQC_ok h1 (hq.mv hst.still))
          refine gp zas ?_
          refine gnt ?_
          refine gc_ret ?_
          refine gx_ret1 rfl (by conv => lhs; whnf) ?_
          exact ze _
  · refine gc_region ?_
    refine gp zfa ?_
    refine gp zl ?_
    refine gp zln ?_
    refine gp (r_bool (r_gtr rfl rfl) (decide_eq_false hsp1)) ?_
    refine gp zmv ?_
    refine gq zfa ?_
    refine gq zl ?_
    refine gq zln ?_
    refine gq zgt ?_
    refine gp zpk ?_
    refine gnt ?_
    refine gif rfl (fun hc14 => ?_) (fun hc14 => ?_)
    · refine gsr ?_
      refine gp zas ?_
      refine gnt ?_
      refine gc_ret ?_
      refine gx_then_ret ?_
      refine gx_ret1 rfl (by conv => lhs; whnf) ?_
      exact ze _
    · refine gc_skip ?_
      refine gx_then ?_
      refine gc_seq ?_
      refine gsr ?_
      refine gp zfa ?_
      refine gp zl ?_
      refine gp zln ?_
      refine gp zmv ?_
      refine gnt ?_
      refine gc_block ?_
      refine gc_loop (α := Nat) (fun k => [pureR (k ≤ n1), blk b1 30 (.int .i64 x.epoch :: .int .i64 x.round :: (dc x.parent ++ (q ++ [.slice a1 n1 c1, .slice a2 n2 c2])))]) (fun k => [(18, .int .i64 (k : Int))]) [2, 4, 19, 20, 21, 22, 23, 24, 25] (fun k => n1 - k) 0 ?_ ?_ ?_
      · refine env_start (by kernel_rfl)
      · rintro w' hw
        obtain ⟨F', hF', hst'⟩ := hw.sel (M := [blk b1 _ _]) (by repeat (first | exact Sel.nil | (apply Sel.cons; · (repeat (first | exact Pick.here | apply Pick.there)))))
        exact ⟨F', stars_pure_mk (Nat.zero_le _) hF', hst'⟩
      · intro k u
        refine gc_pureR (fun hk => ?_)
        replace hk : k ≤ n1 := hk
        refine gsr ?_
        refine gp zlt ?_
        refine gnt ?_
        refine gc_seq ?_
        refine gif rfl (fun hc19 => ?_) (fun hc19 => ?_)
        · have hk' : k < n1 := by (try simp only at hc19); omega
          obtain ⟨g1, o1, cs1, y, ha1, hA1, hg1, hra1, hcl1, hl1, hrd1⟩ := hd1.elem (by decide) hk'
          subst ha1
          obtain ⟨a', n', c', rfl, hn', hrb⟩ := hrd1
          refine gc_skip ?_
          refine gx_then ?_
          refine gc_seq ?_
          refine gc_block ?_
          refine gsr ?_
          refine gp (r_indexAddr_slice rfl rfl Ty.sl_27 Ty.sz_86 (by omega) (by omega)) ?_
          refine gp (r_ld1o rfl Ty.row_86 (hra1 0 _ rfl) hA1) ?_
          refine gp zas ?_
          refine gnt ?_
          refine gsr ?_
          refine gp zmv ?_
          refine gp zln ?_
          refine gp zgt ?_
          refine gnt ?_
          refine gif rfl (fun hc24 => ?_) (fun hc24 => ?_)
          · refine gsr ?_
            refine gp zas ?_
            refine gnt ?_
            refine gc_ret ?_
            refine gx_block_ret ?_
            refine gx_then_ret ?_
            refine gx_round_ret ?_
            refine gx_block_ret ?_
            refine gx_then_ret ?_
            refine gx_ret1 rfl (by conv => lhs; whnf) ?_
            exact ze _
          · refine gc_skip ?_
            refine gx_block_normal ?_
            refine gx_then ?_
            refine gc_region ?_
            refine gp zad ?_
            refine gp zmv ?_
            refine gl_nil ?_
            refine zrd (k + 1) ?_ ?_
            · show n1 - (k + 1) < n1 - k
              omega
            · rintro w' hw
              obtain ⟨F', hF', hst'⟩ := hw.sel (M := [blk b1 _ _]) (by repeat (first | exact Sel.nil | (apply Sel.cons; · (repeat (first | exact Pick.here | apply Pick.there)))))
              exact ⟨F', stars_pure_mk (show k + 1 ≤ n1 by omega) hF', hst'⟩
        · refine gc_exit ?_
          refine gx_then_exit ?_
          refine gx_round_exit ?_
          refine gx_block_hit ?_
          refine gx_then ?_
          refine gsr ?_
          refine gp zfa ?_
          refine gp zL ?_
          refine zc (fun r28 => ?_) (c := fun w1 F1 F2 h1 h2 hd hst => bigQC_ok h1 (hq.mv hst.still))
          refine gp zas ?_
          refine gnt ?_
          refine gc_ret ?_
          refine gx_ret1 rfl (by conv => lhs; whnf) ?_
          exact ze _

end Go.Proofs.YtobjojeliibinaaGreatDoor

