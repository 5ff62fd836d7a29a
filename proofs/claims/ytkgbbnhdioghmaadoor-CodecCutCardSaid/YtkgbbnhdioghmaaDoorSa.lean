/- Walks, by program (wg.py) out of a spec. -/
import Derived.Test.YtkgbbnhdioghmaaDoorTy
import Derived.Test.YtkgbbnhdioghmaaDoorEngZ
import Derived.Test.YtkgbbnhdioghmaaDoorRd
namespace Go.Proofs.YtkgbbnhdioghmaaDoor
open Go
set_option linter.unusedVariables false
set_option linter.unusedSimpArgs false


theorem take_eq_succ {α : Type} {l m : List α} {k : Nat} {x : α} (h : l.take k = m.take k) (h1 : l[k]? = some x) (h2 : m[k]? = some x) : l.take (k + 1) = m.take (k + 1) := by
  rw [List.take_add_one, List.take_add_one, h, h1, h2]
theorem range_left {w : World} {g o : Nat} {xs ys : List Value} (h : w.rangeAt g o (xs ++ ys)) : w.rangeAt g o xs := fun j v hj => h j v (by
  rw [List.getElem?_append_left (List.getElem?_eq_some_iff.1 hj).1]; exact hj)
theorem range_right {w : World} {g o : Nat} {xs ys : List Value} (h : w.rangeAt g o (xs ++ ys)) : w.rangeAt g (o + xs.length) ys := fun j v hj => by
  have := h (xs.length + j) v (by rw [List.getElem?_append_right (by omega)]; simpa using hj)
  rwa [← Nat.add_assoc] at this
theorem range_at {w : World} {g o : Nat} {xs : List Value} (h : w.rangeAt g o xs) {j : Nat} {v : Value} (hj : xs[j]? = some v) : w.cell? ⟨g, o + j, none⟩ = some v := h j v hj

attribute [local irreducible] Gl Gc Gx Gs Runs Wt

set_option maxHeartbeats 400000 in
theorem sameDigs_ok {w : World} {F : Nat → Prop} {n1 c1 n2 c2 : Nat} {a1 a2 : Option Addr} {l1 l2 : List Dig} (h : stars [] w F) (hx : RdList (RdDig) w (fun k => ¬ F k) 16 a1 n1 l1) (hy : RdList (RdDig) w (fun k => ¬ F k) 16 a2 n2 l2) :
    Calls Tryd.prog 33 #[.slice a1 n1 c1, .slice a2 n2 c2] w (Post w F (fun _ : Unit => .bool (decide (l1 = l2))) (fun _ => [])) := by
  have hn1 := hx.len (by decide)
  have hn2 := hy.len (by decide)
  have hm1 := hx.max
  simp only [maxLen] at hm1
  refine g_enter (env := [(0, .slice a1 n1 c1), (1, .slice a2 n2 c2)]) Tryd.func33 rfl h Tryd.ntmps33 rfl rfl ?_
  refine gsr ?_
  refine gp zas ?_
  refine gnt ?_
  refine gc_seq ?_
  refine gsr ?_
  refine gp zmv ?_
  refine gp zln ?_
  refine gp zmv ?_
  refine gp zln ?_
  refine gp zni ?_
  refine gnt ?_
  refine gif rfl (fun hc10 => ?_) (fun hc10 => ?_)
  · refine gsr ?_
    refine gp zas ?_
    refine gnt ?_
    refine gc_ret ?_
    refine gx_then_ret ?_
    refine gx_ret1 rfl (by conv => lhs; whnf) ?_
    have e : decide (l1 = l2) = false := decide_eq_false (fun h => by rw [h] at hn1; (try simp only at hc10); omega)
    rw [e]
    exact ze ()
  · have hnn : n1 = n2 := by (try simp only at hc10); omega
    refine gc_skip ?_
    refine gx_then ?_
    refine gc_seq ?_
    refine gsr ?_
    refine gp zmv ?_
    refine gp zln ?_
    refine gp zmv ?_
    refine gnt ?_
    refine gc_block ?_
    refine gc_loop (α := Nat) (fun k => [pureR (k ≤ n1 ∧ l1.take k = l2.take k)]) (fun k => [(13, .int .i64 (k : Int))]) [4, 5, 14, 15, 16, 17, 18, 19, 20, 21, 22, 23, 24, 25] (fun k => n1 - k) 0 ?_ ?_ ?_
    · refine env_start (by kernel_rfl)
    · rintro w' hw
      obtain ⟨F', hF', hst'⟩ := hw.sel (M := []) (by repeat (first | exact Sel.nil | (apply Sel.cons; · (repeat (first | exact Pick.here | apply Pick.there)))))
      exact ⟨F', stars_pure_mk ⟨Nat.zero_le _, rfl⟩ hF', hst'⟩
    · intro k u
      refine gc_pureR (fun hk => ?_)
      replace hk : k ≤ n1 ∧ l1.take k = l2.take k := hk
      refine gsr ?_
      refine gp zlt ?_
      refine gnt ?_
      refine gc_seq ?_
      refine gif rfl (fun hc14 => ?_) (fun hc14 => ?_)
      · have hk' : k < n1 := by (try simp only at hc14); omega
        obtain ⟨g1, o1, cs1, x, ha1, hA1, hg1, hra1, hcl1, hl1, hrd1⟩ := hx.elem (by decide) hk'
        obtain ⟨g2, o2, cs2, y, ha2, hA2, hg2, hra2, hcl2, hl2, hrd2⟩ := hy.elem (i := k) (by decide) (by omega)
        subst ha1
        subst ha2
        unfold RdDig at hrd1 hrd2
        subst hrd1
        subst hrd2
        refine gc_skip ?_
        refine gx_then ?_
        refine gc_seq ?_
        refine gc_block ?_
        refine gsr ?_
        refine gp zmv ?_
        refine gp zas ?_
        refine gnt ?_
        refine gc_seq ?_
        refine gc_regionS (by kernel_rfl) (by kernel_rfl) ?_
        refine sp zmv ?_
        refine sp zmv ?_
        refine sp (r_indexAddr_slice rfl rfl Ty.sl_45 Ty.sz_23 (by omega) (by omega)) ?_
        refine sp (r_ldNo rfl Ty.row_23 Ty.sz_23 hra1 hcl1 (by decide) hA1) ?_
        refine sp zmv ?_
        refine sp zmv ?_
        refine sp (r_indexAddr_slice rfl rfl Ty.sl_45 Ty.sz_23 (by omega) (by omega)) ?_
        refine sp (r_ldNo rfl Ty.row_23 Ty.sz_23 hra2 hcl2 (by decide) hA2) ?_
        refine sp znd ?_
        refine gs_nil ?_
        refine gx_then ?_
        refine gif rfl (fun hc24 => ?_) (fun hc24 => ?_)
        · refine gsr ?_
          refine gp zas ?_
          refine gnt ?_
          refine gc_ret ?_
          refine gx_block_ret ?_
          refine gx_then_ret ?_
          refine gx_round_ret ?_
          refine gx_block_ret ?_
          refine gx_then_ret ?_
          refine gx_ret1 rfl (by conv => lhs; whnf) ?_
          have e : decide (l1 = l2) = false := decide_eq_false (fun h => by rw [h, hl2] at hl1; exact hc24 (Option.some.inj hl1).symm)
          rw [e]
          exact ze ()
        · refine gc_skip ?_
          refine gx_block_normal ?_
          refine gx_then ?_
          refine gc_region ?_
          refine gp zad ?_
          refine gp zmv ?_
          refine gl_nil ?_
          refine zrd (k + 1) ?_ ?_
          · show n1 - (k + 1) < n1 - k
            omega
          · rintro w' hw
            obtain ⟨F', hF', hst'⟩ := hw.sel (M := []) (by repeat (first | exact Sel.nil | (apply Sel.cons; · (repeat (first | exact Pick.here | apply Pick.there)))))
            refine ⟨F', stars_pure_mk ⟨show k + 1 ≤ n1 by omega, ?_⟩ hF', hst'⟩
            have hxy : x = y := hc24
            subst hxy
            exact take_eq_succ hk.2 hl1 hl2
      · refine gc_exit ?_
        refine gx_then_exit ?_
        refine gx_round_exit ?_
        refine gx_block_hit ?_
        refine gx_then ?_
        refine gsr ?_
        refine gp zas ?_
        refine gnt ?_
        refine gc_ret ?_
        refine gx_ret1 rfl (by conv => lhs; whnf) ?_
        have e : decide (l1 = l2) = true := decide_eq_true (by have h1 := hk.2; have hk' : k = n1 := (by (try simp only at hc14); omega); rw [List.take_of_length_le (by omega), List.take_of_length_le (by omega)] at h1; exact h1)
        rw [e]
        exact ze ()

set_option maxHeartbeats 400000 in
theorem sameLists_ok {w : World} {F : Nat → Prop} {n1 c1 n2 c2 : Nat} {a1 a2 : Option Addr} {l1 l2 : List (List UInt8)} (h : stars [] w F) (hx : RdList (RdBytes w (fun k => ¬ F k)) w (fun k => ¬ F k) 1 a1 n1 l1) (hy : RdList (RdBytes w (fun k => ¬ F k)) w (fun k => ¬ F k) 1 a2 n2 l2) :
    Calls Tryd.prog 48 #[.slice a1 n1 c1, .slice a2 n2 c2] w (Post w F (fun _ : Unit => .bool (decide (l1 = l2))) (fun _ => [])) := by
  have hn1 := hx.len (by decide)
  have hn2 := hy.len (by decide)
  have hm1 := hx.max
  simp only [maxLen] at hm1
  refine g_enter (env := [(0, .slice a1 n1 c1), (1, .slice a2 n2 c2)]) Tryd.func48 rfl h Tryd.ntmps48 rfl rfl ?_
  refine gsr ?_
  refine gp zas ?_
  refine gnt ?_
  refine gc_seq ?_
  refine gsr ?_
  refine gp zmv ?_
  refine gp zln ?_
  refine gp zmv ?_
  refine gp zln ?_
  refine gp zni ?_
  refine gnt ?_
  refine gif rfl (fun hc10 => ?_) (fun hc10 => ?_)
  · refine gsr ?_
    refine gp zas ?_
    refine gnt ?_
    refine gc_ret ?_
    refine gx_then_ret ?_
    refine gx_ret1 rfl (by conv => lhs; whnf) ?_
    have e : decide (l1 = l2) = false := decide_eq_false (fun h => by rw [h] at hn1; (try simp only at hc10); omega)
    rw [e]
    exact ze ()
  · have hnn : n1 = n2 := by (try simp only at hc10); omega
    refine gc_skip ?_
    refine gx_then ?_
    refine gc_seq ?_
    refine gsr ?_
    refine gp zmv ?_
    refine gp zln ?_
    refine gp zmv ?_
    refine gnt ?_
    refine gc_block ?_
    refine gc_loop (α := Nat) (fun k => [pureR (k ≤ n1 ∧ l1.take k = l2.take k)]) (fun k => [(13, .int .i64 (k : Int))]) [4, 5, 14, 15, 16, 17, 18, 19, 20, 21, 22, 23, 24, 25, 26, 27] (fun k => n1 - k) 0 ?_ ?_ ?_
    · refine env_start (by kernel_rfl)
    · rintro w' hw
      obtain ⟨F', hF', hst'⟩ := hw.sel (M := []) (by repeat (first | exact Sel.nil | (apply Sel.cons; · (repeat (first | exact Pick.here | apply Pick.there)))))
      exact ⟨F', stars_pure_mk ⟨Nat.zero_le _, rfl⟩ hF', hst'⟩
    · intro k u
      refine gc_pureR (fun hk => ?_)
      replace hk : k ≤ n1 ∧ l1.take k = l2.take k := hk
      refine gsr ?_
      refine gp zlt ?_
      refine gnt ?_
      refine gc_seq ?_
      refine gif rfl (fun hc14 => ?_) (fun hc14 => ?_)
      · have hk' : k < n1 := by (try simp only at hc14); omega
        obtain ⟨g1, o1, cs1, x, ha1, hA1, hg1, hra1, hcl1, hl1, hrd1⟩ := hx.elem (by decide) hk'
        obtain ⟨g2, o2, cs2, y, ha2, hA2, hg2, hra2, hcl2, hl2, hrd2⟩ := hy.elem (i := k) (by decide) (by omega)
        subst ha1
        subst ha2
        obtain ⟨a1', n1', c1', rfl, hn1', hb1⟩ := hrd1
        obtain ⟨a2', n2', c2', rfl, hn2', hb2⟩ := hrd2
        refine gc_skip ?_
        refine gx_then ?_
        refine gc_seq ?_
        refine gc_block ?_
        refine gsr ?_
        refine gp zmv ?_
        refine gp zas ?_
        refine gnt ?_
        refine gc_seq ?_
        refine gc_regionS (by kernel_rfl) (by kernel_rfl) ?_
        refine sp zmv ?_
        refine sp zmv ?_
        refine sp (r_indexAddr_slice rfl rfl Ty.sl_27 Ty.sz_33 (by omega) (by omega)) ?_
        refine sp (r_ld1o rfl Ty.row_33 (hra1 0 _ rfl) hA1) ?_
        refine sp (r_str rfl Ty.sl_33 Ty.un_5 (by kernel_rfl) (fun w hw => hw.rdOld hb1)) ?_
        refine sp zmv ?_
        refine sp zmv ?_
        refine sp (r_indexAddr_slice rfl rfl Ty.sl_27 Ty.sz_33 (by omega) (by omega)) ?_
        refine sp (r_ld1o rfl Ty.row_33 (hra2 0 _ rfl) hA2) ?_
        refine sp (r_str rfl Ty.sl_33 Ty.un_5 (by kernel_rfl) (fun w hw => hw.rdOld hb2)) ?_
        refine sp zns ?_
        refine gs_nil ?_
        refine gx_then ?_
        refine gif rfl (fun hc26 => ?_) (fun hc26 => ?_)
        · refine gsr ?_
          refine gp zas ?_
          refine gnt ?_
          refine gc_ret ?_
          refine gx_block_ret ?_
          refine gx_then_ret ?_
          refine gx_round_ret ?_
          refine gx_block_ret ?_
          refine gx_then_ret ?_
          refine gx_ret1 rfl (by conv => lhs; whnf) ?_
          have e : decide (l1 = l2) = false := decide_eq_false (fun h => by rw [h, hl2] at hl1; exact hc26 (Option.some.inj hl1).symm)
          rw [e]
          exact ze ()
        · refine gc_skip ?_
          refine gx_block_normal ?_
          refine gx_then ?_
          refine gc_region ?_
          refine gp zad ?_
          refine gp zmv ?_
          refine gl_nil ?_
          refine zrd (k + 1) ?_ ?_
          · show n1 - (k + 1) < n1 - k
            omega
          · rintro w' hw
            obtain ⟨F', hF', hst'⟩ := hw.sel (M := []) (by repeat (first | exact Sel.nil | (apply Sel.cons; · (repeat (first | exact Pick.here | apply Pick.there)))))
            refine ⟨F', stars_pure_mk ⟨show k + 1 ≤ n1 by omega, ?_⟩ hF', hst'⟩
            have hxy : x = y := hc26
            subst hxy
            exact take_eq_succ hk.2 hl1 hl2
      · refine gc_exit ?_
        refine gx_then_exit ?_
        refine gx_round_exit ?_
        refine gx_block_hit ?_
        refine gx_then ?_
        refine gsr ?_
        refine gp zas ?_
        refine gnt ?_
        refine gc_ret ?_
        refine gx_ret1 rfl (by conv => lhs; whnf) ?_
        have e : decide (l1 = l2) = true := decide_eq_true (by have h1 := hk.2; have hk' : k = n1 := (by (try simp only at hc14); omega); rw [List.take_of_length_le (by omega), List.take_of_length_le (by omega)] at h1; exact h1)
        rw [e]
        exact ze ()

set_option maxHeartbeats 400000 in
theorem sameVdrs_ok {w : World} {F : Nat → Prop} {n1 c1 n2 c2 : Nat} {a1 a2 : Option Addr} {l1 l2 : List Vdr} (h : stars [] w F) (hx : RdList (RdVdr) w (fun k => ¬ F k) 17 a1 n1 l1) (hy : RdList (RdVdr) w (fun k => ¬ F k) 17 a2 n2 l2) :
    Calls Tryd.prog 49 #[.slice a1 n1 c1, .slice a2 n2 c2] w (Post w F (fun _ : Unit => .bool (decide (l1 = l2))) (fun _ => [])) := by
  have hn1 := hx.len (by decide)
  have hn2 := hy.len (by decide)
  have hm1 := hx.max
  simp only [maxLen] at hm1
  refine g_enter (env := [(0, .slice a1 n1 c1), (1, .slice a2 n2 c2)]) Tryd.func49 rfl h Tryd.ntmps49 rfl rfl ?_
  refine gsr ?_
  refine gp zas ?_
  refine gnt ?_
  refine gc_seq ?_
  refine gsr ?_
  refine gp zmv ?_
  refine gp zln ?_
  refine gp zmv ?_
  refine gp zln ?_
  refine gp zni ?_
  refine gnt ?_
  refine gif rfl (fun hc10 => ?_) (fun hc10 => ?_)
  · refine gsr ?_
    refine gp zas ?_
    refine gnt ?_
    refine gc_ret ?_
    refine gx_then_ret ?_
    refine gx_ret1 rfl (by conv => lhs; whnf) ?_
    have e : decide (l1 = l2) = false := decide_eq_false (fun h => by rw [h] at hn1; (try simp only at hc10); omega)
    rw [e]
    exact ze ()
  · have hnn : n1 = n2 := by (try simp only at hc10); omega
    refine gc_skip ?_
    refine gx_then ?_
    refine gc_seq ?_
    refine gsr ?_
    refine gp zmv ?_
    refine gp zln ?_
    refine gp zmv ?_
    refine gnt ?_
    refine gc_block ?_
    refine gc_loop (α := Nat) (fun k => [pureR (k ≤ n1 ∧ l1.take k = l2.take k)]) (fun k => [(13, .int .i64 (k : Int))]) [4, 5, 14, 15, 16, 17, 18, 19, 20, 21, 22, 23, 24, 25, 26, 27, 28, 29, 30, 31, 32, 33, 34, 35, 36, 37, 38, 39, 40] (fun k => n1 - k) 0 ?_ ?_ ?_
    · refine env_start (by kernel_rfl)
    · rintro w' hw
      obtain ⟨F', hF', hst'⟩ := hw.sel (M := []) (by repeat (first | exact Sel.nil | (apply Sel.cons; · (repeat (first | exact Pick.here | apply Pick.there)))))
      exact ⟨F', stars_pure_mk ⟨Nat.zero_le _, rfl⟩ hF', hst'⟩
    · intro k u
      refine gc_pureR (fun hk => ?_)
      replace hk : k ≤ n1 ∧ l1.take k = l2.take k := hk
      refine gsr ?_
      refine gp zlt ?_
      refine gnt ?_
      refine gc_seq ?_
      refine gif rfl (fun hc14 => ?_) (fun hc14 => ?_)
      · have hk' : k < n1 := by (try simp only at hc14); omega
        obtain ⟨g1, o1, cs1, x, ha1, hA1, hg1, hra1, hcl1, hl1, hrd1⟩ := hx.elem (by decide) hk'
        obtain ⟨g2, o2, cs2, y, ha2, hA2, hg2, hra2, hcl2, hl2, hrd2⟩ := hy.elem (i := k) (by decide) (by omega)
        subst ha1
        subst ha2
        unfold RdVdr at hrd1 hrd2
        subst hrd1
        subst hrd2
        refine gc_skip ?_
        refine gx_then ?_
        refine gc_seq ?_
        refine gc_block ?_
        refine gsr ?_
        refine gp zmv ?_
        refine gp zas ?_
        refine gnt ?_
        refine gc_seq ?_
        by_cases hsp6 : x.key = y.key
        · refine gc_regionS (by kernel_rfl) (by kernel_rfl) ?_
          refine sp zmv ?_
          refine sp zmv ?_
          refine sp (r_indexAddr_slice rfl rfl Ty.sl_28 Ty.sz_86 (by omega) (by omega)) ?_
          refine sp zfa ?_
          refine sp (r_ldNo rfl Ty.row_23 Ty.sz_23 (range_left hra1) (dc_length _) (by decide) hA1) ?_
          refine sp zmv ?_
          refine sp zmv ?_
          refine sp (r_indexAddr_slice rfl rfl Ty.sl_28 Ty.sz_86 (by omega) (by omega)) ?_
          refine sp zfa ?_
          refine sp (r_ldNo rfl Ty.row_23 Ty.sz_23 (range_left hra2) (dc_length _) (by decide) hA2) ?_
          refine sp (r_bool (b := !decide (x.key = y.key)) (c := false) (r_neq_dig rfl rfl Ty.arr_23 Ty.un_5 Ty.sz_5 (by kernel_rfl)) (by simp [hsp6])) ?_
          refine sp zmv ?_
          refine sq zmv ?_
          refine sq zmv ?_
          refine sq (r_indexAddr_slice rfl rfl Ty.sl_28 Ty.sz_86 (by omega) (by omega)) ?_
          refine sq zfa ?_
          refine sq (r_ld1o rfl Ty.row_3 (range_at hra1 (j := 16) (by first | rfl | (simp only [List.getElem?_cons_succ, List.getElem?_cons_zero, List.cons_append, List.append_assoc, get_dc, Nat.reduceLeDiff, Nat.reduceSub, Nat.reduceAdd, Nat.le_refl]; rfl))) hA1) ?_
          refine sq zmv ?_
          refine sq zmv ?_
          refine sq (r_indexAddr_slice rfl rfl Ty.sl_28 Ty.sz_86 (by omega) (by omega)) ?_
          refine sq zfa ?_
          refine sq (r_ld1o rfl Ty.row_3 (range_at hra2 (j := 16) (by first | rfl | (simp only [List.getElem?_cons_succ, List.getElem?_cons_zero, List.cons_append, List.append_assoc, get_dc, Nat.reduceLeDiff, Nat.reduceSub, Nat.reduceAdd, Nat.le_refl]; rfl))) hA2) ?_
          refine sq zni ?_
          refine sp zpk ?_
          refine gs_nil ?_
          refine gx_then ?_
          refine gif rfl (fun hc39 => ?_) (fun hc39 => ?_)
          · refine gsr ?_
            refine gp zas ?_
            refine gnt ?_
            refine gc_ret ?_
            refine gx_block_ret ?_
            refine gx_then_ret ?_
            refine gx_round_ret ?_
            refine gx_block_ret ?_
            refine gx_then_ret ?_
            refine gx_ret1 rfl (by conv => lhs; whnf) ?_
            have e : decide (l1 = l2) = false := decide_eq_false (fun h => by rw [h, hl2] at hl1; exact hc39 (by rw [Option.some.inj hl1]))
            rw [e]
            exact ze ()
          · refine gc_skip ?_
            refine gx_block_normal ?_
            refine gx_then ?_
            refine gc_region ?_
            refine gp zad ?_
            refine gp zmv ?_
            refine gl_nil ?_
            refine zrd (k + 1) ?_ ?_
            · show n1 - (k + 1) < n1 - k
              omega
            · rintro w' hw
              obtain ⟨F', hF', hst'⟩ := hw.sel (M := []) (by repeat (first | exact Sel.nil | (apply Sel.cons; · (repeat (first | exact Pick.here | apply Pick.there)))))
              refine ⟨F', stars_pure_mk ⟨show k + 1 ≤ n1 by omega, ?_⟩ hF', hst'⟩
              have hxy : x = y := by (try simp only at hc39); cases x; cases y; simp_all
              subst hxy
              exact take_eq_succ hk.2 hl1 hl2
        · refine gc_regionS (by kernel_rfl) (by kernel_rfl) ?_
          refine sp zmv ?_
          refine sp zmv ?_
          refine sp (r_indexAddr_slice rfl rfl Ty.sl_28 Ty.sz_86 (by omega) (by omega)) ?_
          refine sp zfa ?_
          refine sp (r_ldNo rfl Ty.row_23 Ty.sz_23 (range_left hra1) (dc_length _) (by decide) hA1) ?_
          refine sp zmv ?_
          refine sp zmv ?_
          refine sp (r_indexAddr_slice rfl rfl Ty.sl_28 Ty.sz_86 (by omega) (by omega)) ?_
          refine sp zfa ?_
          refine sp (r_ldNo rfl Ty.row_23 Ty.sz_23 (range_left hra2) (dc_length _) (by decide) hA2) ?_
          refine sp (r_bool (b := !decide (x.key = y.key)) (c := true) (r_neq_dig rfl rfl Ty.arr_23 Ty.un_5 Ty.sz_5 (by kernel_rfl)) (by simp [hsp6])) ?_
          refine sp zmv ?_
          refine sn ?_
          refine sn ?_
          refine sn ?_
          refine sn ?_
          refine sn ?_
          refine sn ?_
          refine sn ?_
          refine sn ?_
          refine sn ?_
          refine sn ?_
          refine sn ?_
          refine sp zpk ?_
          refine gs_nil ?_
          refine gx_then ?_
          refine gc_condT rfl rfl ?_
          refine gsr ?_
          refine gp zas ?_
          refine gnt ?_
          refine gc_ret ?_
          refine gx_block_ret ?_
          refine gx_then_ret ?_
          refine gx_round_ret ?_
          refine gx_block_ret ?_
          refine gx_then_ret ?_
          refine gx_ret1 rfl (by conv => lhs; whnf) ?_
          have e : decide (l1 = l2) = false := decide_eq_false (fun h => by rw [h, hl2] at hl1; exact hsp6 (by rw [Option.some.inj hl1]))
          rw [e]
          exact ze ()
      · refine gc_exit ?_
        refine gx_then_exit ?_
        refine gx_round_exit ?_
        refine gx_block_hit ?_
        refine gx_then ?_
        refine gsr ?_
        refine gp zas ?_
        refine gnt ?_
        refine gc_ret ?_
        refine gx_ret1 rfl (by conv => lhs; whnf) ?_
        have e : decide (l1 = l2) = true := decide_eq_true (by have h1 := hk.2; have hk' : k = n1 := (by (try simp only at hc14); omega); rw [List.take_of_length_le (by omega), List.take_of_length_le (by omega)] at h1; exact h1)
        rw [e]
        exact ze ()

end Go.Proofs.YtkgbbnhdioghmaaDoor
