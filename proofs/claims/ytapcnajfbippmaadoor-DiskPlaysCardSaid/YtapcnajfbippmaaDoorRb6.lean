/- Walks, by program (wg.py) out of a spec. -/
import Derived.Test.YtapcnajfbippmaaDoorRa6
namespace Go.Proofs.YtapcnajfbippmaaDoor
open Go
set_option linter.unusedVariables false
set_option linter.unusedSimpArgs false

attribute [local irreducible] Gl Gc Gx Gs Runs Wt

set_option maxHeartbeats 400000 in
theorem rsync_ok {w : World} {F : Nat → Prop} {g : Nat} {m : MS} (h : stars [RefR g m] w F) (hk : MOk m) :
    Calls Tryd.prog 21 #[.pointer (some ⟨g, 0, none⟩)] w (Post w F (fun _ : Unit => .int .i64 (m.syn.1 : Int)) (fun _ => [RefR g m.syn.2])) := by
  refine g_enter (env := [(0, .pointer (some ⟨g, 0, none⟩))]) Tryd.func21 rfl h Tryd.ntmps21 rfl rfl ?_
  refine gsr ?_
  refine gp zas ?_
  refine gnt ?_
  refine gsr ?_
  refine gp zmv ?_
  refine zc (fun _ => ?_) (c := fun w1 F1 F2 h1 h2 hd hst => rbeg_ok h1 hk)
  have hn9 := (beg_ok hk).n
  have ed : m.syn = (m.beg.1, { m.beg.2 with ss := synS m.beg.2 m.beg.1 m.beg.2.n, dt := synD m.beg.2 m.beg.1 m.beg.2.n }) := rfl
  generalize hd2 : m.beg.2 = d2 at *
  refine gl_rf (by repeat (first | exact Pick.here | apply Pick.there)) (fun b c e => ?_)
  refine gp zas ?_
  refine gnt ?_
  refine gc_seq ?_
  refine gsr ?_
  refine gp zmv ?_
  refine gp znc ?_
  refine gp zfa ?_
  refine gp zl ?_
  refine gp zln ?_
  refine gp zmv ?_
  refine gnt ?_
  refine gc_block ?_
  refine gc_loop (α := Nat) (fun k => [pureR (k ≤ d2.n), blk g 57 [.slice (some ⟨b, 0, none⟩) d2.n d2.n, .slice (some ⟨c, 0, none⟩) d2.n d2.n, .slice (some ⟨e, 0, none⟩) d2.n d2.n, .bool d2.off, .int .i64 d2.left], blk b 31 (secs d2.n (synS d2 m.beg.1 k)), blk c 31 (secs d2.n d2.wr), blk e 4 (fnc Value.bool d2.n (synD d2 m.beg.1 k))]) (fun k => [(12, .int .i64 (k : Int))]) [4, 13, 14, 15, 16, 17, 18, 19, 20, 21, 22, 23, 24, 25, 26, 27, 28, 29, 30, 31, 32, 33, 34, 35, 36, 37, 38, 39, 40, 41, 42, 43, 44, 45] (fun k => d2.n - k) 0 ?_ ?_ ?_
  · refine env_start (by kernel_rfl)
  · simp only [synS_zero, synD_zero]
    exact zlp (Nat.zero_le _)
  · intro k u
    refine gc_pureR (fun hk' => ?_)
    replace hk' : k ≤ d2.n := hk'
    refine gsr ?_
    refine gp zlt ?_
    refine gnt ?_
    refine gc_seq ?_
    refine gif rfl (fun hc13 => ?_) (fun hc13 => ?_)
    · try simp only at hc13
      have hkn : k < d2.n := by omega
      refine gc_skip ?_
      refine gx_then ?_
      refine gc_seq ?_
      refine gc_block ?_
      refine gsr ?_
      refine gp zmv ?_
      refine gp zas ?_
      refine gnt ?_
      refine gc_seq ?_
      by_cases h0 : m.beg.1 = 0
      · refine gc_region ?_
        refine gp zmv ?_
        refine gp (r_bool (c := true) zei (decide_eq_true (by omega))) ?_
        refine gp zmv ?_
        refine gq zmv ?_
        refine gq znc ?_
        refine gq zfa ?_
        refine gq zl ?_
        refine gq zmv ?_
        refine gq zia ?_
        refine gq (r_ldB (m := d2.n) (f := synD d2 m.beg.1 k) k (by omega)) ?_
        refine gp zpk ?_
        refine gnt ?_
        refine gif rfl (fun hc25 => ?_) (fun hc25 => ?_)
        · try simp only at hc25
          have hdt : d2.dt k = true := by rw [synD, if_neg (by omega)] at hc25; exact hc25
          refine gc_regionZ 20 ([blk g 57 [.slice (some ⟨b, 0, none⟩) d2.n d2.n, .slice (some ⟨c, 0, none⟩) d2.n d2.n, .slice (some ⟨e, 0, none⟩) d2.n d2.n, .bool d2.off, .int .i64 d2.left], blk c 31 (secs d2.n d2.wr)]) ?_
          refine yps 0 rfl zmv ?_
          refine yps 1 rfl znc ?_
          refine yps 2 rfl zfa ?_
          refine yps 3 rfl zl ?_
          refine yps 4 rfl zmv ?_
          refine yps 5 rfl zmv ?_
          refine yps 6 rfl znc ?_
          refine yps 7 rfl zfa ?_
          refine yps 8 rfl zl ?_
          refine yps 9 rfl zmv ?_
          refine yps 10 rfl zmv ?_
          refine yps 11 rfl znc ?_
          refine yps 12 rfl zfa ?_
          refine yps 13 rfl zl ?_
          refine yps 14 rfl zmv ?_
          refine yps 15 rfl zia ?_
          refine yps 16 rfl (r_ldS (m := d2.n) (f := d2.wr) k (by omega)) ?_
          refine yps 17 rfl zia ?_
          refine yos 18 rfl ?_
          refine gl_stS (m := d2.n) (f := synS d2 m.beg.1 k) (v := d2.wr k) k (by omega) ?_
          refine yxs ?_
          refine yps 19 rfl zia ?_
          refine yzs rfl ?_
          refine gl_stB (m := d2.n) (f := synD d2 m.beg.1 k) (f' := synD d2 m.beg.1 (k + 1)) k (by omega) (synD_yes h0) ?_
          refine gl_nil ?_
          refine gx_block_normal ?_
          refine gx_then ?_
          refine gc_region ?_
          refine gp zad ?_
          refine gp zmv ?_
          refine gl_nil ?_
          refine zrd (k + 1) ?_ ?_
          · show d2.n - (k + 1) < d2.n - k
            omega
          · rw [show updS (synS d2 m.beg.1 k) k (d2.wr k) = synS d2 m.beg.1 (k + 1) from synS_yes h0 hdt]
            exact zlp (show k + 1 ≤ d2.n by omega)
        · try simp only at hc25
          have hdt : d2.dt k = false := by rw [synD, if_neg (by omega)] at hc25; exact hc25
          refine gc_skip ?_
          refine gx_block_normal ?_
          refine gx_then ?_
          refine gc_region ?_
          refine gp zad ?_
          refine gp zmv ?_
          refine gl_nil ?_
          refine zrd (k + 1) ?_ ?_
          · show d2.n - (k + 1) < d2.n - k
            omega
          · simp only [synS_no hdt, synD_no hdt]
            exact zlp (show k + 1 ≤ d2.n by omega)
      · refine gc_region ?_
        refine gp zmv ?_
        refine gp (r_bool (c := false) zei (decide_eq_false (by omega))) ?_
        refine gp zmv ?_
        refine gn ?_
        refine gn ?_
        refine gn ?_
        refine gn ?_
        refine gn ?_
        refine gn ?_
        refine gn ?_
        refine gp zpk ?_
        refine gnt ?_
        refine gc_condF rfl rfl ?_
        refine gc_skip ?_
        refine gx_block_normal ?_
        refine gx_then ?_
        refine gc_region ?_
        refine gp zad ?_
        refine gp zmv ?_
        refine gl_nil ?_
        refine zrd (k + 1) ?_ ?_
        · show d2.n - (k + 1) < d2.n - k
          omega
        · simp only [synS_ne h0, synD_ne h0]
          exact zlp (show k + 1 ≤ d2.n by omega)
    · try simp only at hc13
      have hkn : k = d2.n := by omega
      subst hkn
      refine gc_exit ?_
      refine gx_then_exit ?_
      refine gx_round_exit ?_
      refine gx_block_hit ?_
      refine gx_then ?_
      refine gsr ?_
      refine gp zmv ?_
      refine gp zas ?_
      refine gnt ?_
      refine gc_ret ?_
      refine gx_ret1 rfl (by conv => lhs; whnf) ?_
      exact fun w' hw => ⟨(), by rw [ed], by rw [ed]; exact St.rf (m := { d2 with ss := synS d2 m.beg.1 d2.n, dt := synD d2 m.beg.1 d2.n }) (hw.sel (by repeat (first | exact Sel.nil | (apply Sel.cons; · (repeat (first | exact Pick.here | apply Pick.there)))))) rfl rfl rfl rfl rfl rfl⟩

set_option maxHeartbeats 400000 in
theorem runs_ok {w : World} {F : Nat → Prop} {g n e : Nat} {x y v z : Value} {dt : Nat → Bool} (h : stars [blk g 57 [x, y, .slice (some ⟨e, 0, none⟩) n n, v, z], blk e 4 (fnc Value.bool n dt)] w F) (hn : n ≤ 4096) :
    Calls Tryd.prog 26 #[.pointer (some ⟨g, 0, none⟩)] w (Post w F (fun r : Option Addr × Nat => .slice r.1 (unsN dt n).length r.2) (fun r => [rowR 3 1 r.1 (unsN dt n).length r.2 ((unsN dt n).map (Value.int .i64)), blk g 57 [x, y, .slice (some ⟨e, 0, none⟩) n n, v, z], blk e 4 (fnc Value.bool n dt)])) := by
  refine g_enter (env := [(0, .pointer (some ⟨g, 0, none⟩))]) Tryd.func26 rfl h Tryd.ntmps26 rfl rfl ?_
  refine gsr ?_
  refine gp zas ?_
  refine gnt ?_
  refine gsr ?_
  refine ze0 fun b6 => ?_
  refine gp zas ?_
  refine gnt ?_
  refine gc_seq ?_
  refine gsr ?_
  refine gp zmv ?_
  refine gp znc ?_
  refine gp zfa ?_
  refine gp zl ?_
  refine gp zln ?_
  refine gp zmv ?_
  refine gnt ?_
  refine gc_block ?_
  refine gc_loop (α := Nat × Nat × List Int × Option Addr × Nat) (fun q => [pureR (q.1 ≤ n ∧ q.2.2.1 = unsN dt q.1 ∧ q.2.1 = q.2.2.1.length), rowR 3 1 q.2.2.2.1 q.2.1 q.2.2.2.2 (q.2.2.1.map (Value.int .i64)), blk g 57 [x, y, .slice (some ⟨e, 0, none⟩) n n, v, z], blk e 4 (fnc Value.bool n dt)]) (fun q => [(12, .int .i64 (q.1 : Int)), (3, .slice q.2.2.2.1 q.2.1 q.2.2.2.2)]) [4, 5, 13, 14, 15, 16, 17, 18, 19, 20, 21, 22] (fun q => n - q.1) (0, 0, [], some ⟨b6, 0, none⟩, 0) ?_ ?_ ?_
  · refine env_start (by kernel_rfl)
  · exact zlp ⟨Nat.zero_le _, rfl, rfl⟩
  · intro q u
    obtain ⟨k, ln, l, a, c⟩ := q
    refine gc_pureR (fun hq => ?_)
    obtain ⟨hk, hl, hln⟩ := hq
    replace hk : k ≤ n := hk
    replace hl : l = unsN dt k := hl
    replace hln : ln = l.length := hln
    have hlk : ln ≤ k := by rw [hln, hl]; exact unsN_len dt k
    refine gsr ?_
    refine gp zlt ?_
    refine gnt ?_
    refine gc_seq ?_
    refine gif rfl (fun hc13 => ?_) (fun hc13 => ?_)
    · try simp only at hc13
      have hkn : k < n := by omega
      refine gc_skip ?_
      refine gx_then ?_
      refine gc_seq ?_
      refine gc_block ?_
      refine gsr ?_
      refine gp zmv ?_
      refine gp zia ?_
      refine gp (r_ldB (m := n) (f := dt) k (by omega)) ?_
      refine gp zas ?_
      refine gp zas ?_
      refine gnt ?_
      refine gsr ?_
      refine gp zmv ?_
      refine gnt ?_
      refine gif rfl (fun hc17 => ?_) (fun hc17 => ?_)
      · refine gc_region ?_
        refine gp zmv ?_
        refine gp zmv ?_
        refine ze1 fun b20 => ?_
        refine zapo (fun a21 c21 => ?_) (hb := by show (ln + 1) * 8 ≤ 140737488355328; omega)
        refine gp zas ?_
        refine gl_nil ?_
        refine gx_block_normal ?_
        refine gx_then ?_
        refine gc_region ?_
        refine gp zad ?_
        refine gp zmv ?_
        refine gl_nil ?_
        refine zrd ((k + 1, ln + 1, l ++ [(k : Int)], a21, c21)) ?_ ?_
        · show n - (k + 1) < n - k
          omega
        · have eu : unsN dt (k + 1) = unsN dt k ++ [(k : Int)] := by rw [unsN_succ, if_pos hc17]
          have em : (l ++ [(k : Int)]).map (Value.int .i64) = l.map (Value.int .i64) ++ [Value.int .i64 (k : Int)] := by simp
          simp only [em]
          exact zlp (show k + 1 ≤ n ∧ l ++ [(k : Int)] = unsN dt (k + 1) ∧ ln + 1 = (l ++ [(k : Int)]).length from ⟨by omega, by rw [eu, hl], by simp [hln]⟩)
      · refine gc_skip ?_
        refine gx_block_normal ?_
        refine gx_then ?_
        refine gc_region ?_
        refine gp zad ?_
        refine gp zmv ?_
        refine gl_nil ?_
        refine zrd ((k + 1, ln, l, a, c)) ?_ ?_
        · show n - (k + 1) < n - k
          omega
        · have eu : unsN dt (k + 1) = unsN dt k := by rw [unsN_succ, if_neg (by rw [hc17]; decide)]
          exact zlp (show k + 1 ≤ n ∧ l = unsN dt (k + 1) ∧ ln = l.length from ⟨by omega, by rw [eu, hl], hln⟩)
    · try simp only at hc13
      have hkn : k = n := by omega
      refine gc_exit ?_
      refine gx_then_exit ?_
      refine gx_round_exit ?_
      refine gx_block_hit ?_
      refine gx_then ?_
      refine gsr ?_
      refine gp zmv ?_
      refine gp zas ?_
      refine gnt ?_
      refine gc_ret ?_
      refine gx_ret1 rfl (by conv => lhs; whnf) ?_
      have e9 : unsN dt n = l := by rw [hl, hkn]
      have e8 : (unsN dt n).length = ln := by rw [e9, hln]
      exact fun w' hw => ⟨(a, c), by simp only [e9, ← hln], by simp only [e9, ← hln]; exact hw.sel (by repeat (first | exact Sel.nil | (apply Sel.cons; · (repeat (first | exact Pick.here | apply Pick.there)))))⟩

set_option maxHeartbeats 400000 in
theorem rcrash_ok {w : World} {F : Nat → Prop} {g : Nat} {m : MS} (h : stars [RefR g m] w F) (hk : MOk m) {kb : List Bool} {ak : Option Addr} {nk ck : Nat} (hb : RdRow w (fun k => ¬ F k) 1 ak nk (kb.map Value.bool)) :
    Calls Tryd.prog 23 #[.pointer (some ⟨g, 0, none⟩), .slice ak nk ck] w (Post w F (fun _ : Unit => .tuple #[]) (fun _ => [RefR g (m.cra kb)])) := by
  obtain ⟨b, c, e, h⟩ := rf_open h
  have hnk : nk = kb.length := by have := hb.1; simp at this; omega
  have hn4 := hk.n
  have hul : m.uns.length ≤ m.n := unsN_len _ _
  refine g_enter (env := [(0, .pointer (some ⟨g, 0, none⟩)), (1, .slice ak nk ck)]) Tryd.func23 rfl h Tryd.ntmps23 rfl rfl ?_
  refine gc_seq ?_
  refine gsr ?_
  refine gp zmv ?_
  refine zc ?_ (c := fun w1 F1 F2 h1 h2 hd hst => runs_ok (dt := m.dt) h1 hk.n)
  rintro ⟨a7, c7⟩
  rw [show unsN m.dt m.n = m.uns from rfl]
  refine gp zln ?_
  refine gp zmv ?_
  refine gnt ?_
  refine gc_block ?_
  refine gc_loop (α := Nat) (fun j => [pureR (j ≤ m.uns.length), blk g 57 [.slice (some ⟨b, 0, none⟩) m.n m.n, .slice (some ⟨c, 0, none⟩) m.n m.n, .slice (some ⟨e, 0, none⟩) m.n m.n, .bool m.off, .int .i64 m.left], blk b 31 (secs m.n (keepM m.uns kb m.wr m.ss j)), blk c 31 (secs m.n m.wr), blk e 4 (fnc Value.bool m.n (clrM m.uns m.dt j)), rowR 3 1 a7 m.uns.length c7 (m.uns.map (Value.int .i64))]) (fun j => [(9, .int .i64 (j : Int))]) [4, 5, 10, 11, 12, 13, 14, 15, 16, 17, 18, 19, 20, 21, 22, 23, 24, 25, 26, 27, 28, 29, 30, 31, 32, 33, 34, 35, 36, 37, 38, 39, 40, 41, 42, 43] (fun j => m.uns.length - j) 0 ?_ ?_ ?_
  · refine env_start (by kernel_rfl)
  · exact zlp (Nat.zero_le _)
  · intro j u
    refine gc_pureR (fun hj => ?_)
    replace hj : j ≤ m.uns.length := hj
    refine gsr ?_
    refine gp zlt ?_
    refine gnt ?_
    refine gc_seq ?_
    refine gif rfl (fun hc10 => ?_) (fun hc10 => ?_)
    · try simp only at hc10
      have hj' : j < m.uns.length := by omega
      have hkk := uns_key (m := m) hj'
      refine gc_fact (p := ∃ ga oa, a7 = some ⟨ga, oa, none⟩) (fun w hw => (by obtain ⟨ga, oa, ha, _⟩ := (hw.row (a := a7) (by repeat (first | exact Pick.here | apply Pick.there))).2.2 (by omega); exact ⟨ga, oa, ha⟩)) (fun hx7 => ?_)
      obtain ⟨ga, oa, ha⟩ := hx7
      subst ha
      refine gc_skip ?_
      refine gx_then ?_
      refine gc_seq ?_
      refine gc_block ?_
      refine gsr ?_
      refine gp zmv ?_
      refine gp (zia) ?_
      refine gp (r_ld1r (v := .int .i64 (m.uns.getD j 0)) rfl Ty.row_3 (by repeat (first | exact Pick.here | apply Pick.there)) (by simp [List.getD, hj'])) ?_
      refine gp zas ?_
      refine gp zas ?_
      refine gnt ?_
      refine gc_seq ?_
      refine gc_seq ?_
      by_cases hjn : j < nk
      · obtain ⟨gk, ok, hak, hAk, _, hrk⟩ := hb.elem hjn
        subst hak
        refine gc_region ?_
        refine gp zmv ?_
        refine gp zmv ?_
        refine gp zln ?_
        refine gp (r_bool (c := true) zlt (decide_eq_true (by omega))) ?_
        refine gp zmv ?_
        refine gq zmv ?_
        refine gq zmv ?_
        refine gq zia ?_
        refine gq (r_ld1o rfl Ty.row_4 (hb.cellV hjn false).1 hAk) ?_
        refine gp zpk ?_
        refine gnt ?_
        refine gif rfl (fun hc23 => ?_) (fun hc23 => ?_)
        · refine gc_regionT 13 (by kernel_rfl) (by kernel_rfl) ?_
          refine sp zmv ?_
          refine sp znc ?_
          refine sp zfa ?_
          refine sp zl ?_
          refine sp zmv ?_
          refine sp zmv ?_
          refine sp znc ?_
          refine sp zfa ?_
          refine sp zl ?_
          refine sp zmv ?_
          refine sp (zia) ?_
          refine sp (r_ldS (m := m.n) (f := m.wr) (m.uns.getD j 0).toNat (by omega)) ?_
          refine sp zia ?_
          refine gs_nil ?_
          refine gl_stS (m := m.n) (f := keepM m.uns kb m.wr m.ss j) (v := m.wr (m.uns.getD j 0).toNat) (m.uns.getD j 0).toNat (by omega) ?_
          refine gnt ?_
          refine gc_region ?_
          refine gp zmv ?_
          refine gp znc ?_
          refine gp zfa ?_
          refine gp zl ?_
          refine gp zmv ?_
          refine gp zia ?_
          refine gl_stB (m := m.n) (f := clrM m.uns m.dt j) (f' := clrM m.uns m.dt (j + 1)) (m.uns.getD j 0).toNat (by omega) rfl ?_
          refine gl_nil ?_
          refine gx_block_normal ?_
          refine gx_then ?_
          refine gc_region ?_
          refine gp zad ?_
          refine gp zmv ?_
          refine gl_nil ?_
          refine zrd (j + 1) ?_ ?_
          · show m.uns.length - (j + 1) < m.uns.length - j
            omega
          · rw [show updS (keepM m.uns kb m.wr m.ss j) (m.uns.getD j 0).toNat (m.wr (m.uns.getD j 0).toNat) = keepM m.uns kb m.wr m.ss (j + 1) from Eq.symm (by rw [keepM, if_pos hc23])]
            exact zlp (show j + 1 ≤ m.uns.length by omega)
        · refine gc_skip ?_
          refine gx_then ?_
          refine gc_region ?_
          refine gp zmv ?_
          refine gp znc ?_
          refine gp zfa ?_
          refine gp zl ?_
          refine gp zmv ?_
          refine gp zia ?_
          refine gl_stB (m := m.n) (f := clrM m.uns m.dt j) (f' := clrM m.uns m.dt (j + 1)) (m.uns.getD j 0).toNat (by omega) rfl ?_
          refine gl_nil ?_
          refine gx_block_normal ?_
          refine gx_then ?_
          refine gc_region ?_
          refine gp zad ?_
          refine gp zmv ?_
          refine gl_nil ?_
          refine zrd (j + 1) ?_ ?_
          · show m.uns.length - (j + 1) < m.uns.length - j
            omega
          · rw [show keepM m.uns kb m.wr m.ss j = keepM m.uns kb m.wr m.ss (j + 1) from Eq.symm (by rw [keepM, if_neg (by rw [show kb.getD j false = false by exact hc23]; decide)])]
            exact zlp (show j + 1 ≤ m.uns.length by omega)
      · refine gc_region ?_
        refine gp zmv ?_
        refine gp zmv ?_
        refine gp zln ?_
        refine gp (r_bool (c := false) zlt (decide_eq_false (by omega))) ?_
        refine gp zmv ?_
        refine gn ?_
        refine gn ?_
        refine gn ?_
        refine gn ?_
        refine gp zpk ?_
        refine gnt ?_
        refine gc_condF rfl rfl ?_
        refine gc_skip ?_
        refine gx_then ?_
        refine gc_region ?_
        refine gp zmv ?_
        refine gp znc ?_
        refine gp zfa ?_
        refine gp zl ?_
        refine gp zmv ?_
        refine gp zia ?_
        refine gl_stB (m := m.n) (f := clrM m.uns m.dt j) (f' := clrM m.uns m.dt (j + 1)) (m.uns.getD j 0).toNat (by omega) rfl ?_
        refine gl_nil ?_
        refine gx_block_normal ?_
        refine gx_then ?_
        refine gc_region ?_
        refine gp zad ?_
        refine gp zmv ?_
        refine gl_nil ?_
        refine zrd (j + 1) ?_ ?_
        · show m.uns.length - (j + 1) < m.uns.length - j
          omega
        · rw [show keepM m.uns kb m.wr m.ss j = keepM m.uns kb m.wr m.ss (j + 1) from Eq.symm (by rw [keepM, if_neg (by rw [show kb.getD j false = false by (have h9 : kb[j]? = none := List.getElem?_eq_none (by omega)); simp only [List.getD, h9, Option.getD_none]]; decide)])]
          exact zlp (show j + 1 ≤ m.uns.length by omega)
    · try simp only at hc10
      have hj' : j = m.uns.length := by omega
      refine gc_exit ?_
      refine gx_then_exit ?_
      refine gx_round_exit ?_
      refine gx_block_hit ?_
      refine gx_then ?_
      refine gc_region ?_
      refine gp zmv ?_
      refine gp zmv ?_
      refine gp znc ?_
      refine gp zfa ?_
      refine zs1 ?_
      refine gp znc ?_
      refine gp zfa ?_
      refine zs1 ?_
      refine gl_nil ?_
      refine gx_ret0' rfl ?_
      exact fun w' hw => ⟨(), rfl, St.rf (m := m.cra kb) (hw.sel (by repeat (first | exact Sel.nil | (apply Sel.cons; · (repeat (first | exact Pick.here | apply Pick.there)))))) rfl rfl rfl (by rw [hj']; rfl) rfl (by rw [hj']; rfl)⟩

end Go.Proofs.YtapcnajfbippmaaDoor
