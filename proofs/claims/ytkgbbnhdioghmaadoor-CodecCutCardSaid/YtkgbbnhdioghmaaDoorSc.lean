/- Walks, by program (wg.py) out of a spec. -/
import Derived.Test.YtkgbbnhdioghmaaDoorSb
namespace Go.Proofs.YtkgbbnhdioghmaaDoor
open Go
set_option linter.unusedVariables false
set_option linter.unusedSimpArgs false

attribute [local irreducible] Gl Gc Gx Gs Runs Wt

set_option maxHeartbeats 400000 in
theorem bigSig_ok {w : World} {F : Nat → Prop} {cs : List Value} {x : Sig} (h : stars [] w F) (hx : RdSig w (fun k => ¬ F k) cs x) :
    Calls Tryd.prog 54 #[.agg cs.toArray] w (Post w F (fun b : Bool => .bool b) (fun _ => [])) := by
  obtain ⟨a1, n1, c1, a2, n2, c2, rfl, hk1, hk2, hd1, hd2⟩ := hx
  refine g_enter (env := [(0, .agg (List.toArray [.int .i64 x.leaf, .slice a1 n1 c1, .slice a2 n2 c2]))]) Tryd.func54 rfl h Tryd.ntmps54 rfl rfl ?_
  refine gsr ?_
  refine zbN fun b1 => ?_
  refine gp zas ?_
  refine gnt ?_
  refine gc_seq ?_
  by_cases hsp1 : (100 : Int) < (n1 : Int)
  · refine gc_region ?_
    refine gp zfa ?_
    refine gp zl ?_
    refine gp zln ?_
    refine gp (r_bool (r_gtr rfl rfl) (decide_eq_true hsp1)) ?_
    refine gp zmv ?_
    refine gn ?_
    refine gn ?_
    refine gn ?_
    refine gn ?_
    refine gp zpk ?_
    refine gp zas ?_
    refine gnt ?_
    refine gc_ret ?_
    refine gx_ret1 rfl (by conv => lhs; whnf) ?_
    exact ze _
  · refine gc_region ?_
    refine gp zfa ?_
    refine gp zl ?_
    refine gp zln ?_
    refine gp (r_bool (r_gtr rfl rfl) (decide_eq_false hsp1)) ?_
    refine gp zmv ?_
    refine gq zfa ?_
    refine gq zl ?_
    refine gq zln ?_
    refine gq zgt ?_
    refine gp zpk ?_
    refine gp zas ?_
    refine gnt ?_
    refine gc_ret ?_
    refine gx_ret1 rfl (by conv => lhs; whnf) ?_
    exact ze _

set_option maxHeartbeats 400000 in
theorem bigQC_ok {w : World} {F : Nat → Prop} {cs : List Value} {x : QC} (h : stars [] w F) (hx : RdQC w (fun k => ¬ F k) cs x) :
    Calls Tryd.prog 42 #[.agg cs.toArray] w (Post w F (fun b : Bool => .bool b) (fun _ => [])) := by
  obtain ⟨a1, n1, c1, rfl, hk1, hd1⟩ := hx
  have hm1 := hd1.max
  simp only [maxLen] at hm1
  refine g_enter (env := [(0, .agg (List.toArray (.int .i64 x.epoch :: .int .i64 x.round :: (dc x.block ++ [.slice a1 n1 c1]))))]) Tryd.func42 rfl h Tryd.ntmps42 rfl rfl ?_
  refine gsr ?_
  refine zbN fun b1 => ?_
  refine gp zas ?_
  refine gnt ?_
  refine gc_seq ?_
  refine gsr ?_
  refine gp zfa ?_
  refine gp zl ?_
  refine gp zln ?_
  refine gp zgt ?_
  refine gnt ?_
  refine gif rfl (fun hc8 => ?_) (fun hc8 => ?_)
  · refine gsr ?_
    refine gp zas ?_
    refine gnt ?_
    refine gc_ret ?_
    refine gx_then_ret ?_
    refine gx_ret1 rfl (by conv => lhs; whnf) ?_
    exact ze _
  · refine gc_skip ?_
    refine gx_then ?_
    refine gc_seq ?_
    refine gsr ?_
    refine gp zfa ?_
    refine gp zl ?_
    refine gp zln ?_
    refine gp zmv ?_
    refine gnt ?_
    refine gc_block ?_
    refine gc_loop (α := Nat) (fun k => [pureR (k ≤ n1)]) (fun k => [(12, .int .i64 (k : Int))]) [2, 4, 13, 14, 15, 16, 17, 18, 19] (fun k => n1 - k) 0 ?_ ?_ ?_
    · refine env_start (by kernel_rfl)
    · rintro w' hw
      obtain ⟨F', hF', hst'⟩ := hw.sel (M := []) (by repeat (first | exact Sel.nil | (apply Sel.cons; · (repeat (first | exact Pick.here | apply Pick.there)))))
      exact ⟨F', stars_pure_mk (Nat.zero_le _) hF', hst'⟩
    · intro k u
      refine gc_pureR (fun hk => ?_)
      replace hk : k ≤ n1 := hk
      refine gsr ?_
      refine gp zlt ?_
      refine gnt ?_
      refine gc_seq ?_
      refine gif rfl (fun hc13 => ?_) (fun hc13 => ?_)
      · have hk' : k < n1 := by (try simp only at hc13); omega
        obtain ⟨g1, o1, cs1, y, ha1, hA1, hg1, hra1, hcl1, hl1, hrd1⟩ := hd1.elem (by decide) hk'
        subst ha1
        obtain ⟨s1, rfl, hs1⟩ := hrd1
        have ls := hs1.len
        refine gc_skip ?_
        refine gx_then ?_
        refine gc_seq ?_
        refine gc_block ?_
        refine gsr ?_
        refine gp (r_indexAddr_slice rfl rfl Ty.sl_24 Ty.sz_49 (by omega) (by omega)) ?_
        refine gp (r_ldNo rfl Ty.row_49 Ty.sz_49 hra1 hcl1 (by decide) hA1) ?_
        refine zal fun b4 => ?_
        refine gl_storeN (wt0 rfl) rfl rfl Ty.sz_49 hcl1 (by repeat (first | exact Pick.here | apply Pick.there)) (by decide) (all_cons' rfl hs1.one) (updL_all (by rw [hcl1]; rfl)) ?_
        refine gnt ?_
        refine gsr ?_
        refine gp zfa ?_
        refine gp (r_ldN (seg := s1) rfl Ty.row_47 Ty.sz_47 (by repeat (first | exact Pick.here | apply Pick.there)) (by show s1.take 3 = s1; exact List.take_of_length_le (by omega)) ls) ?_
        refine zc (fun r18 => ?_) (c := fun w1 F1 F2 h1 h2 hd hst => bigSig_ok h1 (hs1.mv hst.still))
        refine gnt ?_
        refine gif rfl (fun hc18 => ?_) (fun hc18 => ?_)
        · refine gsr ?_
          refine gp zas ?_
          refine gnt ?_
          refine gc_ret ?_
          refine gx_block_ret ?_
          refine gx_then_ret ?_
          refine gx_round_ret ?_
          refine gx_block_ret ?_
          refine gx_then_ret ?_
          refine gx_ret1 rfl (by conv => lhs; whnf) ?_
          exact ze _
        · refine gc_skip ?_
          refine gx_block_normal ?_
          refine gx_then ?_
          refine gc_region ?_
          refine gp zad ?_
          refine gp zmv ?_
          refine gl_nil ?_
          refine zrd (k + 1) ?_ ?_
          · show n1 - (k + 1) < n1 - k
            omega
          · rintro w' hw
            obtain ⟨F', hF', hst'⟩ := hw.sel (M := []) (by repeat (first | exact Sel.nil | (apply Sel.cons; · (repeat (first | exact Pick.here | apply Pick.there)))))
            exact ⟨F', stars_pure_mk (show k + 1 ≤ n1 by omega) hF', hst'⟩
      · refine gc_exit ?_
        refine gx_then_exit ?_
        refine gx_round_exit ?_
        refine gx_block_hit ?_
        refine gx_then ?_
        refine gsr ?_
        refine gp zas ?_
        refine gnt ?_
        refine gc_ret ?_
        refine gx_ret1 rfl (by conv => lhs; whnf) ?_
        exact ze _

set_option maxHeartbeats 400000 in
theorem bigBlock_ok {w : World} {F : Nat → Prop} {cs : List Value} {x : Block} (h : stars [] w F) (hx : RdBlock w (fun k => ¬ F k) cs x) :
    Calls Tryd.prog 12 #[.agg cs.toArray] w (Post w F (fun b : Bool => .bool b) (fun _ => [])) := by
  obtain ⟨q, a1, n1, c1, a2, n2, c2, rfl, hq, hk1, hd1, hk2, hd2⟩ := hx
  have lq := hq.len
  have hm1 := hd1.max
  simp only [maxLen] at hm1
  have z_lq := Len.of lq
  refine g_enter (env := [(0, .agg (List.toArray (.int .i64 x.epoch :: .int .i64 x.round :: (dc x.parent ++ (q ++ [.slice a1 n1 c1, .slice a2 n2 c2])))))]) Tryd.func12 rfl h Tryd.ntmps12 rfl rfl ?_
  refine gsr ?_
  refine zbN fun b1 => ?_
  refine gp zas ?_
  refine gnt ?_
  refine gc_seq ?_
  refine gc_seq ?_
  by_cases hsp1 : (12 : Int) < (n1 : Int)
  · refine gc_region ?_
    refine gp zfa ?_
    refine gp zl ?_
    refine gp zln ?_
    refine gp (r_bool (r_gtr rfl rfl) (decide_eq_true hsp1)) ?_
    refine gp zmv ?_
    refine gn ?_
    refine gn ?_
    refine gn ?_
    refine gn ?_
    refine gp zpk ?_
    refine gnt ?_
    refine gif rfl (fun hc14 => ?_) (fun hc14 => ?_)
    · refine gsr ?_
      refine gp zas ?_
      refine gnt ?_
      refine gc_ret ?_
      refine gx_then_ret ?_
      refine gx_ret1 rfl (by conv => lhs; whnf) ?_
      exact ze _
    · refine gc_skip ?_
      refine gx_then ?_
      refine gc_seq ?_
      refine gsr ?_
      refine gp zfa ?_
      refine gp zl ?_
      refine gp zln ?_
      refine gp zmv ?_
      refine gnt ?_
      refine gc_block ?_
      refine gc_loop (α := Nat) (fun k => [pureR (k ≤ n1), blk b1 30 (.int .i64 x.epoch :: .int .i64 x.round :: (dc x.parent ++ (q ++ [.slice a1 n1 c1, .slice a2 n2 c2])))]) (fun k => [(18, .int .i64 (k : Int))]) [2, 4, 19, 20, 21, 22, 23, 24, 25] (fun k => n1 - k) 0 ?_ ?_ ?_
      · refine env_start (by kernel_rfl)
      · rintro w' hw
        obtain ⟨F', hF', hst'⟩ := hw.sel (M := [blk b1 _ _]) (by repeat (first | exact Sel.nil | (apply Sel.cons; · (repeat (first | exact Pick.here | apply Pick.there)))))
        exact ⟨F', stars_pure_mk (Nat.zero_le _) hF', hst'⟩
      · intro k u
        refine gc_pureR (fun hk => ?_)
        replace hk : k ≤ n1 := hk
        refine gsr ?_
        refine gp zlt ?_
        refine gnt ?_
        refine gc_seq ?_
        refine gif rfl (fun hc19 => ?_) (fun hc19 => ?_)
        · have hk' : k < n1 := by (try simp only at hc19); omega
          obtain ⟨g1, o1, cs1, y, ha1, hA1, hg1, hra1, hcl1, hl1, hrd1⟩ := hd1.elem (by decide) hk'
          subst ha1
          obtain ⟨a', n', c', rfl, hn', hrb⟩ := hrd1
          refine gc_skip ?_
          refine gx_then ?_
          refine gc_seq ?_
          refine gc_block ?_
          refine gsr ?_
          refine gp (r_indexAddr_slice rfl rfl Ty.sl_27 Ty.sz_33 (by omega) (by omega)) ?_
          refine gp (r_ld1o rfl Ty.row_33 (hra1 0 _ rfl) hA1) ?_
          refine gp zas ?_
          refine gnt ?_
          refine gsr ?_
          refine gp zmv ?_
          refine gp zln ?_
          refine gp zgt ?_
          refine gnt ?_
          refine gif rfl (fun hc24 => ?_) (fun hc24 => ?_)
          · refine gsr ?_
            refine gp zas ?_
            refine gnt ?_
            refine gc_ret ?_
            refine gx_block_ret ?_
            refine gx_then_ret ?_
            refine gx_round_ret ?_
            refine gx_block_ret ?_
            refine gx_then_ret ?_
            refine gx_ret1 rfl (by conv => lhs; whnf) ?_
            exact ze _
          · refine gc_skip ?_
            refine gx_block_normal ?_
            refine gx_then ?_
            refine gc_region ?_
            refine gp zad ?_
            refine gp zmv ?_
            refine gl_nil ?_
            refine zrd (k + 1) ?_ ?_
            · show n1 - (k + 1) < n1 - k
              omega
            · rintro w' hw
              obtain ⟨F', hF', hst'⟩ := hw.sel (M := [blk b1 _ _]) (by repeat (first | exact Sel.nil | (apply Sel.cons; · (repeat (first | exact Pick.here | apply Pick.there)))))
              exact ⟨F', stars_pure_mk (show k + 1 ≤ n1 by omega) hF', hst'⟩
        · refine gc_exit ?_
          refine gx_then_exit ?_
          refine gx_round_exit ?_
          refine gx_block_hit ?_
          refine gx_then ?_
          refine gsr ?_
          refine gp zfa ?_
          refine gp zL ?_
          refine zc (fun r28 => ?_) (c := fun w1 F1 F2 h1 h2 hd hst => bigQC_ok h1 (hq.mv hst.still))
          refine gp zas ?_
          refine gnt ?_
          refine gc_ret ?_
          refine gx_ret1 rfl (by conv => lhs; whnf) ?_
          exact ze _
  · refine gc_region ?_
    refine gp zfa ?_
    refine gp zl ?_
    refine gp zln ?_
    refine gp (r_bool (r_gtr rfl rfl) (decide_eq_false hsp1)) ?_
    refine gp zmv ?_
    refine gq zfa ?_
    refine gq zl ?_
    refine gq zln ?_
    refine gq zgt ?_
    refine gp zpk ?_
    refine gnt ?_
    refine gif rfl (fun hc14 => ?_) (fun hc14 => ?_)
    · refine gsr ?_
      refine gp zas ?_
      refine gnt ?_
      refine gc_ret ?_
      refine gx_then_ret ?_
      refine gx_ret1 rfl (by conv => lhs; whnf) ?_
      exact ze _
    · refine gc_skip ?_
      refine gx_then ?_
      refine gc_seq ?_
      refine gsr ?_
      refine gp zfa ?_
      refine gp zl ?_
      refine gp zln ?_
      refine gp zmv ?_
      refine gnt ?_
      refine gc_block ?_
      refine gc_loop (α := Nat) (fun k => [pureR (k ≤ n1), blk b1 30 (.int .i64 x.epoch :: .int .i64 x.round :: (dc x.parent ++ (q ++ [.slice a1 n1 c1, .slice a2 n2 c2])))]) (fun k => [(18, .int .i64 (k : Int))]) [2, 4, 19, 20, 21, 22, 23, 24, 25] (fun k => n1 - k) 0 ?_ ?_ ?_
      · refine env_start (by kernel_rfl)
      · rintro w' hw
        obtain ⟨F', hF', hst'⟩ := hw.sel (M := [blk b1 _ _]) (by repeat (first | exact Sel.nil | (apply Sel.cons; · (repeat (first | exact Pick.here | apply Pick.there)))))
        exact ⟨F', stars_pure_mk (Nat.zero_le _) hF', hst'⟩
      · intro k u
        refine gc_pureR (fun hk => ?_)
        replace hk : k ≤ n1 := hk
        refine gsr ?_
        refine gp zlt ?_
        refine gnt ?_
        refine gc_seq ?_
        refine gif rfl (fun hc19 => ?_) (fun hc19 => ?_)
        · have hk' : k < n1 := by (try simp only at hc19); omega
          obtain ⟨g1, o1, cs1, y, ha1, hA1, hg1, hra1, hcl1, hl1, hrd1⟩ := hd1.elem (by decide) hk'
          subst ha1
          obtain ⟨a', n', c', rfl, hn', hrb⟩ := hrd1
          refine gc_skip ?_
          refine gx_then ?_
          refine gc_seq ?_
          refine gc_block ?_
          refine gsr ?_
          refine gp (r_indexAddr_slice rfl rfl Ty.sl_27 Ty.sz_33 (by omega) (by omega)) ?_
          refine gp (r_ld1o rfl Ty.row_33 (hra1 0 _ rfl) hA1) ?_
          refine gp zas ?_
          refine gnt ?_
          refine gsr ?_
          refine gp zmv ?_
          refine gp zln ?_
          refine gp zgt ?_
          refine gnt ?_
          refine gif rfl (fun hc24 => ?_) (fun hc24 => ?_)
          · refine gsr ?_
            refine gp zas ?_
            refine gnt ?_
            refine gc_ret ?_
            refine gx_block_ret ?_
            refine gx_then_ret ?_
            refine gx_round_ret ?_
            refine gx_block_ret ?_
            refine gx_then_ret ?_
            refine gx_ret1 rfl (by conv => lhs; whnf) ?_
            exact ze _
          · refine gc_skip ?_
            refine gx_block_normal ?_
            refine gx_then ?_
            refine gc_region ?_
            refine gp zad ?_
            refine gp zmv ?_
            refine gl_nil ?_
            refine zrd (k + 1) ?_ ?_
            · show n1 - (k + 1) < n1 - k
              omega
            · rintro w' hw
              obtain ⟨F', hF', hst'⟩ := hw.sel (M := [blk b1 _ _]) (by repeat (first | exact Sel.nil | (apply Sel.cons; · (repeat (first | exact Pick.here | apply Pick.there)))))
              exact ⟨F', stars_pure_mk (show k + 1 ≤ n1 by omega) hF', hst'⟩
        · refine gc_exit ?_
          refine gx_then_exit ?_
          refine gx_round_exit ?_
          refine gx_block_hit ?_
          refine gx_then ?_
          refine gsr ?_
          refine gp zfa ?_
          refine gp zL ?_
          refine zc (fun r28 => ?_) (c := fun w1 F1 F2 h1 h2 hd hst => bigQC_ok h1 (hq.mv hst.still))
          refine gp zas ?_
          refine gnt ?_
          refine gc_ret ?_
          refine gx_ret1 rfl (by conv => lhs; whnf) ?_
          exact ze _

end Go.Proofs.YtkgbbnhdioghmaaDoor
